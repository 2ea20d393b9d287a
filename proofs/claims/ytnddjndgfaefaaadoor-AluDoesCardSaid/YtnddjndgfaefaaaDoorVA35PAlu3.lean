import Derived.Below
import Derived.Deep.Draws
import Derived.Deep.AppendLies
import Derived.Maps.AppendAt
import Derived.OwnWalk
import Derived.Laws.BytesArg
import Derived.Laws.MakeOwn
import Derived.Laws.OwnMore
import Derived.Deep.OwnRows
import Derived.Tactics
import Derived.Lib.ConvBytes
import Derived.Laws.Slices
import Derived.WalkKit
import Derived.KernelRfl
import Derived.RowKit3
import Derived.Deep.LoopGhost
import Derived.Deep.QuietTactic
import Derived.BigQuiet
import Derived.WideLaws
import Derived.Deep.DeepCutAuto
import Derived.Deep.CutBlock
import Derived.Deep.RegionHeld3
import Derived.Laws.Rows
import Derived.Lib.AppendStr
import Derived.ArgAppend
import Derived.Laws.IdiomCopy
import Derived.RowKit
import Derived.OrdersHeld
import Derived.Laws.BitsLemmas
import Derived.Laws.StructEq
import Derived.WalkLawsBesides
import Derived.Shelf.Abstract
import Derived.Shelf.RegionOpen
import Derived.RangeFuncRecord
import Derived.OwnWalkIn
import Derived.ProofKit
import Derived.Lib.Hide
import Derived.Shelf.Small.Bits
import Derived.Shelf.LaysM
import Derived.Shelf.Strings.Fields
import Derived.Shelf.Strings.Replace
import Derived.Shelf.Strings.SplitShaped
import Derived.Lib.LaidTab
import Derived.Maps.OwnOps
import Derived.WalkSmall
import Derived.Laws.ResultCell
import Derived.Deep.RegionWith
import Derived.Defers
import Derived.Recover
import Derived.Tactics2
import Derived.Lib.ItoaNum
import Derived.Test.YtnddjndgfaefaaaDoorVZF0
import Derived.Test.YtnddjndgfaefaaaDoorVA0
import Derived.Test.YtnddjndgfaefaaaDoorVA3HDecTake
import Derived.Test.YtnddjndgfaefaaaDoorVA4
import Derived.Test.YtnddjndgfaefaaaDoorVA5FAluSmall
import Derived.Test.YtnddjndgfaefaaaDoorVA6
import Derived.Test.YtnddjndgfaefaaaDoorVA7FAluBoth
import Derived.Test.YtnddjndgfaefaaaDoorVA10HDecForms
import Derived.Test.YtnddjndgfaefaaaDoorVA11HDecFind
import Derived.Test.YtnddjndgfaefaaaDoorVA14
import Derived.Test.YtnddjndgfaefaaaDoorVA15FDecEncode
import Derived.Test.YtnddjndgfaefaaaDoorVA16FDecForm
import Derived.Test.YtnddjndgfaefaaaDoorVA17HAluDo
import Derived.Test.YtnddjndgfaefaaaDoorVA22HDecRef
import Derived.Test.YtnddjndgfaefaaaDoorVA24FFerryref07Encode
import Derived.Test.YtnddjndgfaefaaaDoorVA25
import Derived.Test.YtnddjndgfaefaaaDoorVA28
import Derived.Test.YtnddjndgfaefaaaDoorVA30PDec2
import Derived.Test.YtnddjndgfaefaaaDoorVA31PDec3
import Derived.Test.YtnddjndgfaefaaaDoorVA32PDec4
import Derived.Test.YtnddjndgfaefaaaDoorVA33PDec6
import Derived.Test.YtnddjndgfaefaaaDoorVA34PDec7
section
namespace Go.Proofs.YtnddjndgfaefaaaDoor.F
set_option linter.unusedVariables false
set_option linter.unusedSimpArgs false
open Go.RowKit Go.Proofs.YtnddjndgfaefaaaDoorW.PrintWords Go.Proofs.YtnddjndgfaefaaaDoorW.PrintLast Go.Proofs.YtnddjndgfaefaaaDoorW.PrintMore
attribute [local irreducible] dec_Encode.f dec_Form.f ferryref07_Encode.f
theorem fields_bounds (x : S51) (hx : x ∈ decRows) (w : Int) (h0 : 0 ≤ w) (h1 : w ≤ 4294967295) :
    (0 ≤ (takeAll (infoAt x) w).d ∧ (takeAll (infoAt x) w).d < 32) ∧ (0 ≤ (takeAll (infoAt x) w).a ∧ (takeAll (infoAt x) w).a < 32) := by
  obtain ⟨hm, he⟩ := info_form x hx
  generalize infoAt x = q at hm he ⊢
  have key : ∀ (n : Nums) (a b c d : Bool) (top : Int), (fitsOf n.s a = true ∧ fitsOf n.t b = true ∧ fitsOf n.d c = true ∧ fitsOf n.a d = true ∧ decide (top ≤ n.i) = false) → (0 ≤ n.d ∧ n.d < 32) ∧ (0 ≤ n.a ∧ n.a < 32) := by
    intro n a b c d top h
    obtain ⟨p1, p2, p3, p4, p5⟩ := h
    exact ⟨⟨(fits_bound p3).1, (fits_bound p3).2.1⟩, ⟨(fits_bound p4).1, (fits_bound p4).2.1⟩⟩
  simp only [formTable, List.mem_cons, List.not_mem_nil, or_false] at hm
  rcases hm with rfl | rfl | rfl | rfl | rfl | rfl | rfl | rfl | rfl | rfl | rfl | rfl | rfl | rfl | rfl | rfl | rfl | rfl | rfl | rfl
  · exact key _ _ _ _ _ _ (tr_dta w h0 h1).1
  · exact key _ _ _ _ _ _ (tr_dts w h0 h1).1
  · exact key _ _ _ _ _ _ (tr_s w h0 h1).1
  · exact key _ _ _ _ _ _ (tr_ds w h0 h1).1
  · exact key _ _ _ _ _ _ (tr_dst w h0 h1).1
  · exact key _ _ _ _ _ _ (tr_c w h0 h1).1
  · exact key _ _ _ _ _ _ (tr_d w h0 h1).1
  · exact key _ _ _ _ _ _ (tr_st w h0 h1).1
  · exact key _ _ _ _ _ _ (tr_dtr w h0 h1).1
  · exact key _ _ _ _ _ _ (tr_dtv w h0 h1).1
  · exact key _ _ _ _ _ _ (tr_so w h0 h1).1
  · exact key _ _ _ _ _ _ (tr_j w h0 h1).1
  · exact key _ _ _ _ _ _ (tr_sto w h0 h1).1
  · exact key _ _ _ _ _ _ (tr_tsi w h0 h1).1
  · exact key _ _ _ _ _ _ (tr_ti w h0 h1).1
  · exact key _ _ _ _ _ _ (tr_dsd w h0 h1).1
  · exact key _ _ _ _ _ _ (tr_tsx w h0 h1).1
  · exact key _ _ _ _ _ _ (tr_dt w h0 h1).1
  · exact key _ _ _ _ _ _ (tr_td w h0 h1).1
  · exact key _ _ _ _ _ _ (tr_tm w h0 h1).1
theorem enc_true (nm : ByteArray) (x1 x2 d a i v : Int) (h0 : 0 ≤ i) (h1 : i ≤ 4294967295) (h : dec_Encode.f nm x1 x2 d a i = some (v, true)) : (0 ≤ d ∧ d < 32) ∧ (0 ≤ a ∧ a < 32) ∧ soundOf nm ⟨x1, x2, d, a, i⟩ = true := by
  rcases name_cases nm with ⟨x, hx, rfl⟩ | hn
  · have he := enc_found x hx ⟨x1, x2, d, a, i⟩ (named_row x hx)
    dsimp only at he
    rw [h] at he
    by_cases hq : takeAll (infoAt x) (layAll (infoAt x) x.f1 x.f2 ⟨x1, x2, d, a, i⟩) = ⟨x1, x2, d, a, i⟩ ∧ soundOf x.f0 ⟨x1, x2, d, a, i⟩ = true
    · have hk := key_row x hx ⟨x1, x2, d, a, i⟩ h0 h1
      have hb := fields_bounds x hx _ hk.2.2.1 hk.2.2.2
      rw [hq.1] at hb
      exact ⟨hb.1, hb.2, hq.2⟩
    rw [if_neg hq] at he
    exact absurd (show true = false from congrArg Prod.snd (Option.some.inj he)) (by decide)
  · exfalso
    have he : dec_Encode.f nm x1 x2 d a i = some (0, false) := by
      unfold dec_Encode.f dec_named.f
      rw [named_none nm hn, Option.bind_some]
      dsimp only
      rw [if_neg (by decide)]
    rw [h] at he
    exact absurd (show true = false from congrArg Prod.snd (Option.some.inj he)) (by decide)
theorem enc_total (nm : ByteArray) (x1 x2 d a i : Int) : dec_Encode.f nm x1 x2 d a i = some (0, false) ∨ ∃ v, dec_Encode.f nm x1 x2 d a i = some (v, true) := by
  rcases name_cases nm with ⟨x, hx, rfl⟩ | hn
  · have he := enc_found x hx ⟨x1, x2, d, a, i⟩ (named_row x hx)
    dsimp only at he
    split at he
    · exact Or.inr ⟨_, he⟩
    · exact Or.inl he
  · refine Or.inl ?_
    unfold dec_Encode.f dec_named.f
    rw [named_none nm hn, Option.bind_some]
    dsimp only
    rw [if_neg (by decide)]
theorem aform_add : dec_Form.f ⟨#[97, 100, 100]⟩ = some ⟨#[100, 115, 116]⟩ := by decide +kernel
theorem aform_sub : dec_Form.f ⟨#[115, 117, 98]⟩ = some ⟨#[100, 115, 116]⟩ := by decide +kernel
theorem aform_addi : dec_Form.f ⟨#[97, 100, 100, 105]⟩ = some ⟨#[116, 115, 105]⟩ := by decide +kernel
theorem aform_addu : dec_Form.f ⟨#[97, 100, 100, 117]⟩ = some ⟨#[100, 115, 116]⟩ := by decide +kernel
theorem aform_subu : dec_Form.f ⟨#[115, 117, 98, 117]⟩ = some ⟨#[100, 115, 116]⟩ := by decide +kernel
theorem aform_addiu : dec_Form.f ⟨#[97, 100, 100, 105, 117]⟩ = some ⟨#[116, 115, 105]⟩ := by decide +kernel
theorem aform_and : dec_Form.f ⟨#[97, 110, 100]⟩ = some ⟨#[100, 115, 116]⟩ := by decide +kernel
theorem aform_or : dec_Form.f ⟨#[111, 114]⟩ = some ⟨#[100, 115, 116]⟩ := by decide +kernel
theorem aform_xor : dec_Form.f ⟨#[120, 111, 114]⟩ = some ⟨#[100, 115, 116]⟩ := by decide +kernel
theorem aform_nor : dec_Form.f ⟨#[110, 111, 114]⟩ = some ⟨#[100, 115, 116]⟩ := by decide +kernel
theorem aform_andi : dec_Form.f ⟨#[97, 110, 100, 105]⟩ = some ⟨#[116, 115, 105]⟩ := by decide +kernel
theorem aform_ori : dec_Form.f ⟨#[111, 114, 105]⟩ = some ⟨#[116, 115, 105]⟩ := by decide +kernel
theorem aform_xori : dec_Form.f ⟨#[120, 111, 114, 105]⟩ = some ⟨#[116, 115, 105]⟩ := by decide +kernel
theorem aform_slt : dec_Form.f ⟨#[115, 108, 116]⟩ = some ⟨#[100, 115, 116]⟩ := by decide +kernel
theorem aform_sltu : dec_Form.f ⟨#[115, 108, 116, 117]⟩ = some ⟨#[100, 115, 116]⟩ := by decide +kernel
theorem aform_slti : dec_Form.f ⟨#[115, 108, 116, 105]⟩ = some ⟨#[116, 115, 105]⟩ := by decide +kernel
theorem aform_sltiu : dec_Form.f ⟨#[115, 108, 116, 105, 117]⟩ = some ⟨#[116, 115, 105]⟩ := by decide +kernel
theorem aform_lui : dec_Form.f ⟨#[108, 117, 105]⟩ = some ⟨#[116, 105]⟩ := by decide +kernel
theorem aform_sll : dec_Form.f ⟨#[115, 108, 108]⟩ = some ⟨#[100, 116, 97]⟩ := by decide +kernel
theorem aform_srl : dec_Form.f ⟨#[115, 114, 108]⟩ = some ⟨#[100, 116, 97]⟩ := by decide +kernel
theorem aform_sra : dec_Form.f ⟨#[115, 114, 97]⟩ = some ⟨#[100, 116, 97]⟩ := by decide +kernel
theorem aform_sllv : dec_Form.f ⟨#[115, 108, 108, 118]⟩ = some ⟨#[100, 116, 115]⟩ := by decide +kernel
theorem aform_srlv : dec_Form.f ⟨#[115, 114, 108, 118]⟩ = some ⟨#[100, 116, 115]⟩ := by decide +kernel
theorem aform_srav : dec_Form.f ⟨#[115, 114, 97, 118]⟩ = some ⟨#[100, 116, 115]⟩ := by decide +kernel
theorem aform_rotr : dec_Form.f ⟨#[114, 111, 116, 114]⟩ = some ⟨#[100, 116, 114]⟩ := by decide +kernel
theorem aform_rotrv : dec_Form.f ⟨#[114, 111, 116, 114, 118]⟩ = some ⟨#[100, 116, 118]⟩ := by decide +kernel
theorem aform_mul : dec_Form.f ⟨#[109, 117, 108]⟩ = some ⟨#[100, 115, 116]⟩ := by decide +kernel
theorem aform_clz : dec_Form.f ⟨#[99, 108, 122]⟩ = some ⟨#[100, 115, 100]⟩ := by decide +kernel
theorem aform_clo : dec_Form.f ⟨#[99, 108, 111]⟩ = some ⟨#[100, 115, 100]⟩ := by decide +kernel
theorem aform_ext : dec_Form.f ⟨#[101, 120, 116]⟩ = some ⟨#[116, 115, 120]⟩ := by decide +kernel
theorem aform_ins : dec_Form.f ⟨#[105, 110, 115]⟩ = some ⟨#[116, 115, 120]⟩ := by decide +kernel
theorem aform_wsbh : dec_Form.f ⟨#[119, 115, 98, 104]⟩ = some ⟨#[100, 116]⟩ := by decide +kernel
theorem aform_seb : dec_Form.f ⟨#[115, 101, 98]⟩ = some ⟨#[100, 116]⟩ := by decide +kernel
theorem aform_seh : dec_Form.f ⟨#[115, 101, 104]⟩ = some ⟨#[100, 116]⟩ := by decide +kernel
theorem trim_sll : strings_TrimSuffix.f ⟨#[115, 108, 108]⟩ ⟨#[118]⟩ = some ⟨#[115, 108, 108]⟩ := by decide +kernel
theorem trim_srl : strings_TrimSuffix.f ⟨#[115, 114, 108]⟩ ⟨#[118]⟩ = some ⟨#[115, 114, 108]⟩ := by decide +kernel
theorem trim_sra : strings_TrimSuffix.f ⟨#[115, 114, 97]⟩ ⟨#[118]⟩ = some ⟨#[115, 114, 97]⟩ := by decide +kernel
theorem trim_sllv : strings_TrimSuffix.f ⟨#[115, 108, 108, 118]⟩ ⟨#[118]⟩ = some ⟨#[115, 108, 108]⟩ := by decide +kernel
theorem trim_srlv : strings_TrimSuffix.f ⟨#[115, 114, 108, 118]⟩ ⟨#[118]⟩ = some ⟨#[115, 114, 108]⟩ := by decide +kernel
theorem trim_srav : strings_TrimSuffix.f ⟨#[115, 114, 97, 118]⟩ ⟨#[118]⟩ = some ⟨#[115, 114, 97]⟩ := by decide +kernel
theorem trim_rotr : strings_TrimSuffix.f ⟨#[114, 111, 116, 114]⟩ ⟨#[118]⟩ = some ⟨#[114, 111, 116, 114]⟩ := by decide +kernel
theorem trim_rotrv : strings_TrimSuffix.f ⟨#[114, 111, 116, 114, 118]⟩ ⟨#[118]⟩ = some ⟨#[114, 111, 116, 114]⟩ := by decide +kernel
theorem lb (l : List UInt8) : (⟨l.toArray⟩ : ByteArray).toList = l := by rw [ByteArray.toList_eq]
theorem l_add : (⟨#[97, 100, 100]⟩ : ByteArray).toList = [97, 100, 100] := lb _
theorem l_addi : (⟨#[97, 100, 100, 105]⟩ : ByteArray).toList = [97, 100, 100, 105] := lb _
theorem l_addiu : (⟨#[97, 100, 100, 105, 117]⟩ : ByteArray).toList = [97, 100, 100, 105, 117] := lb _
theorem l_addu : (⟨#[97, 100, 100, 117]⟩ : ByteArray).toList = [97, 100, 100, 117] := lb _
theorem l_and : (⟨#[97, 110, 100]⟩ : ByteArray).toList = [97, 110, 100] := lb _
theorem l_andi : (⟨#[97, 110, 100, 105]⟩ : ByteArray).toList = [97, 110, 100, 105] := lb _
theorem l_clo : (⟨#[99, 108, 111]⟩ : ByteArray).toList = [99, 108, 111] := lb _
theorem l_clz : (⟨#[99, 108, 122]⟩ : ByteArray).toList = [99, 108, 122] := lb _
theorem l_dsd : (⟨#[100, 115, 100]⟩ : ByteArray).toList = [100, 115, 100] := lb _
theorem l_dst : (⟨#[100, 115, 116]⟩ : ByteArray).toList = [100, 115, 116] := lb _
theorem l_dt : (⟨#[100, 116]⟩ : ByteArray).toList = [100, 116] := lb _
theorem l_dta : (⟨#[100, 116, 97]⟩ : ByteArray).toList = [100, 116, 97] := lb _
theorem l_dtr : (⟨#[100, 116, 114]⟩ : ByteArray).toList = [100, 116, 114] := lb _
theorem l_dts : (⟨#[100, 116, 115]⟩ : ByteArray).toList = [100, 116, 115] := lb _
theorem l_dtv : (⟨#[100, 116, 118]⟩ : ByteArray).toList = [100, 116, 118] := lb _
theorem l_ext : (⟨#[101, 120, 116]⟩ : ByteArray).toList = [101, 120, 116] := lb _
theorem l_ins : (⟨#[105, 110, 115]⟩ : ByteArray).toList = [105, 110, 115] := lb _
theorem l_lui : (⟨#[108, 117, 105]⟩ : ByteArray).toList = [108, 117, 105] := lb _
theorem l_mul : (⟨#[109, 117, 108]⟩ : ByteArray).toList = [109, 117, 108] := lb _
theorem l_nor : (⟨#[110, 111, 114]⟩ : ByteArray).toList = [110, 111, 114] := lb _
theorem l_or : (⟨#[111, 114]⟩ : ByteArray).toList = [111, 114] := lb _
theorem l_ori : (⟨#[111, 114, 105]⟩ : ByteArray).toList = [111, 114, 105] := lb _
theorem l_rotr : (⟨#[114, 111, 116, 114]⟩ : ByteArray).toList = [114, 111, 116, 114] := lb _
theorem l_rotrv : (⟨#[114, 111, 116, 114, 118]⟩ : ByteArray).toList = [114, 111, 116, 114, 118] := lb _
theorem l_seb : (⟨#[115, 101, 98]⟩ : ByteArray).toList = [115, 101, 98] := lb _
theorem l_seh : (⟨#[115, 101, 104]⟩ : ByteArray).toList = [115, 101, 104] := lb _
theorem l_sll : (⟨#[115, 108, 108]⟩ : ByteArray).toList = [115, 108, 108] := lb _
theorem l_sllv : (⟨#[115, 108, 108, 118]⟩ : ByteArray).toList = [115, 108, 108, 118] := lb _
theorem l_slt : (⟨#[115, 108, 116]⟩ : ByteArray).toList = [115, 108, 116] := lb _
theorem l_slti : (⟨#[115, 108, 116, 105]⟩ : ByteArray).toList = [115, 108, 116, 105] := lb _
theorem l_sltiu : (⟨#[115, 108, 116, 105, 117]⟩ : ByteArray).toList = [115, 108, 116, 105, 117] := lb _
theorem l_sltu : (⟨#[115, 108, 116, 117]⟩ : ByteArray).toList = [115, 108, 116, 117] := lb _
theorem l_sra : (⟨#[115, 114, 97]⟩ : ByteArray).toList = [115, 114, 97] := lb _
theorem l_srav : (⟨#[115, 114, 97, 118]⟩ : ByteArray).toList = [115, 114, 97, 118] := lb _
theorem l_srl : (⟨#[115, 114, 108]⟩ : ByteArray).toList = [115, 114, 108] := lb _
theorem l_srlv : (⟨#[115, 114, 108, 118]⟩ : ByteArray).toList = [115, 114, 108, 118] := lb _
theorem l_sub : (⟨#[115, 117, 98]⟩ : ByteArray).toList = [115, 117, 98] := lb _
theorem l_subu : (⟨#[115, 117, 98, 117]⟩ : ByteArray).toList = [115, 117, 98, 117] := lb _
theorem l_ti : (⟨#[116, 105]⟩ : ByteArray).toList = [116, 105] := lb _
theorem l_tsi : (⟨#[116, 115, 105]⟩ : ByteArray).toList = [116, 115, 105] := lb _
theorem l_tsx : (⟨#[116, 115, 120]⟩ : ByteArray).toList = [116, 115, 120] := lb _
theorem l_wsbh : (⟨#[119, 115, 98, 104]⟩ : ByteArray).toList = [119, 115, 98, 104] := lb _
theorem l_xor : (⟨#[120, 111, 114]⟩ : ByteArray).toList = [120, 111, 114] := lb _
theorem l_xori : (⟨#[120, 111, 114, 105]⟩ : ByteArray).toList = [120, 111, 114, 105] := lb _
theorem sx16 {i : Int} (i0 : 0 ≤ i) (i1 : i ≤ 4294967295) : 0 ≤ sxOf i 16 ∧ sxOf i 16 ≤ 4294967295 := by
  unfold sxOf
  simp only [Nat.reduceSub, Int.reducePow]
  split <;> omega
theorem and31u {s : Int} (s0 : 0 ≤ s) (s1 : s ≤ 4294967295) : Go.bits .and .u32 s 31 = s % 32 := by
  have := mask32 5 (by decide) s0 s1
  simpa using this
theorem w31 {s : Int} (s0 : 0 ≤ s) (s1 : s ≤ 4294967295) : wrap64 (Go.bits .and .u32 s 31) = ((s % 32).toNat : Int) := by
  rw [and31u s0 s1, w64_id (by omega) (by omega)]
  omega
theorem truth_of (p : Prop) [Decidable p] : alu_truth.f (decide p) = some (if p then 1 else 0) := by
  unfold alu_truth.f
  by_cases h : p
  · rw [if_pos (decide_eq_true h), if_pos h]
  rw [if_neg (by rw [decide_eq_false h]; decide), if_neg h]
theorem bit_of (p : Prop) [Decidable p] : ferryref09_bit.f (decide p) = some (if p then 1 else 0) := by
  unfold ferryref09_bit.f
  by_cases h : p
  · rw [if_pos (decide_eq_true h), if_pos h]
  rw [if_neg (by rw [decide_eq_false h]; decide), if_neg h]
set_option maxHeartbeats 2000000 in
theorem aval_add (x1 x2 d a i s t v : Int) (s0 : 0 ≤ s) (s1 : s ≤ 4294967295) (t0 : 0 ≤ t) (t1 : t ≤ 4294967295) (i0 : 0 ≤ i) (i1 : i ≤ 4294967295) (d0 : 0 ≤ d) (d1 : d < 32) (a0 : 0 ≤ a) (a1 : a < 32) (he : dec_Encode.f ⟨#[97, 100, 100]⟩ x1 x2 d a i = some (v, true)) :
    alu_Do.f ⟨#[97, 100, 100]⟩ x1 x2 d a i s t = some (if sumOver s t = true then ((0 : Int), false) else ((s + t) % 4294967296, true)) := by
  unfold alu_Do.f
  rw [he, Option.bind_some]
  dsimp only
  rw [if_pos rfl, if_pos (show (⟨#[97, 100, 100]⟩ : ByteArray).toList ∈ aluNames from by rw [l_add]; decide), aform_add, Option.bind_some]
  rw [l_dst, if_neg (by decide), if_neg (by decide), if_neg (by decide), if_neg (by decide), if_neg (by decide), if_neg (by decide)]
  by_cases ho : sumOver s t = true
  · rw [if_pos ⟨l_add, ho⟩, if_pos ho]
  rw [if_neg (fun h => ho h.2), if_neg (fun h => absurd h.1 (by rw [l_add]; decide)), if_neg ho]
  unfold alu_both.f
  rw [l_add, if_pos rfl]
  unfold alu_sum.f
  rw [if_neg ho]
  rfl
set_option maxHeartbeats 2000000 in
theorem aval_sub (x1 x2 d a i s t v : Int) (s0 : 0 ≤ s) (s1 : s ≤ 4294967295) (t0 : 0 ≤ t) (t1 : t ≤ 4294967295) (i0 : 0 ≤ i) (i1 : i ≤ 4294967295) (d0 : 0 ≤ d) (d1 : d < 32) (a0 : 0 ≤ a) (a1 : a < 32) (he : dec_Encode.f ⟨#[115, 117, 98]⟩ x1 x2 d a i = some (v, true)) :
    alu_Do.f ⟨#[115, 117, 98]⟩ x1 x2 d a i s t = some (if lessOver s t = true then ((0 : Int), false) else ((s - t) % 4294967296, true)) := by
  unfold alu_Do.f
  rw [he, Option.bind_some]
  dsimp only
  rw [if_pos rfl, if_pos (show (⟨#[115, 117, 98]⟩ : ByteArray).toList ∈ aluNames from by rw [l_sub]; decide), aform_sub, Option.bind_some]
  rw [l_dst, if_neg (by decide), if_neg (by decide), if_neg (by decide), if_neg (by decide), if_neg (by decide), if_neg (by decide)]
  rw [l_sub, if_neg (fun h => absurd h.1 (by decide))]
  by_cases ho : lessOver s t = true
  · rw [if_pos ⟨rfl, ho⟩, if_pos ho]
  rw [if_neg (fun h => ho h.2), if_neg ho]
  unfold alu_both.f
  rw [l_sub, if_neg (by decide), if_pos rfl]
  unfold alu_less.f
  rw [if_neg ho]
  rfl
set_option maxHeartbeats 2000000 in
theorem aval_addi (x1 x2 d a i s t v : Int) (s0 : 0 ≤ s) (s1 : s ≤ 4294967295) (t0 : 0 ≤ t) (t1 : t ≤ 4294967295) (i0 : 0 ≤ i) (i1 : i ≤ 4294967295) (d0 : 0 ≤ d) (d1 : d < 32) (a0 : 0 ≤ a) (a1 : a < 32) (he : dec_Encode.f ⟨#[97, 100, 100, 105]⟩ x1 x2 d a i = some (v, true)) :
    alu_Do.f ⟨#[97, 100, 100, 105]⟩ x1 x2 d a i s t = some (if sumOver s (sxOf i 16) = true then ((0 : Int), false) else ((s + sxOf i 16) % 4294967296, true)) := by
  unfold alu_Do.f
  rw [he, Option.bind_some]
  dsimp only
  rw [if_pos rfl, if_pos (show (⟨#[97, 100, 100, 105]⟩ : ByteArray).toList ∈ aluNames from by rw [l_addi]; decide), aform_addi, Option.bind_some]
  rw [l_tsi, if_pos rfl]
  have hsx : swap_Sext.f i 16 = some (sxOf i 16) := swap_Sext_spec i 16 i0 i1 (by decide) (by decide)
  have hsm : alu_small.f ⟨#[97, 100, 100, 105]⟩ x1 x2 d a i s = alu_sum.f s (sxOf i 16) := by
    unfold alu_small.f
    rw [hsx, Option.bind_some, l_addi, if_pos rfl]
    cases alu_sum.f s (sxOf i 16) <;> rfl
  have hov : addiOver i s = sumOver s (sxOf i 16) := by unfold addiOver; rw [hsx]
  rw [hov, hsm]
  by_cases ho : sumOver s (sxOf i 16) = true
  · rw [if_pos ⟨l_addi, ho⟩, if_pos ho]
  rw [if_neg (fun h => ho h.2), if_neg ho]
  unfold alu_sum.f
  rw [if_neg ho]
  rfl
set_option maxHeartbeats 2000000 in
theorem aval_addu (x1 x2 d a i s t v : Int) (s0 : 0 ≤ s) (s1 : s ≤ 4294967295) (t0 : 0 ≤ t) (t1 : t ≤ 4294967295) (i0 : 0 ≤ i) (i1 : i ≤ 4294967295) (d0 : 0 ≤ d) (d1 : d < 32) (a0 : 0 ≤ a) (a1 : a < 32) (he : dec_Encode.f ⟨#[97, 100, 100, 117]⟩ x1 x2 d a i = some (v, true)) :
    alu_Do.f ⟨#[97, 100, 100, 117]⟩ x1 x2 d a i s t = some ((s + t) % 4294967296, true) := by
  unfold alu_Do.f
  rw [he, Option.bind_some]
  dsimp only
  rw [if_pos rfl, if_pos (show (⟨#[97, 100, 100, 117]⟩ : ByteArray).toList ∈ aluNames from by rw [l_addu]; decide), aform_addu, Option.bind_some]
  rw [l_dst, if_neg (by decide), if_neg (by decide), if_neg (by decide), if_neg (by decide), if_neg (by decide), if_neg (by decide)]
  rw [l_addu, if_neg (fun h => absurd h.1 (by decide)), if_neg (fun h => absurd h.1 (by decide))]
  have hbo : alu_both.f ⟨#[97, 100, 100, 117]⟩ x1 x2 d a i s t = some ((s + t) % 4294967296) := by
    unfold alu_both.f
    rw [l_addu, if_neg (by decide), if_neg (by decide), if_pos rfl]
  rw [hbo]
  rfl
set_option maxHeartbeats 2000000 in
theorem aval_subu (x1 x2 d a i s t v : Int) (s0 : 0 ≤ s) (s1 : s ≤ 4294967295) (t0 : 0 ≤ t) (t1 : t ≤ 4294967295) (i0 : 0 ≤ i) (i1 : i ≤ 4294967295) (d0 : 0 ≤ d) (d1 : d < 32) (a0 : 0 ≤ a) (a1 : a < 32) (he : dec_Encode.f ⟨#[115, 117, 98, 117]⟩ x1 x2 d a i = some (v, true)) :
    alu_Do.f ⟨#[115, 117, 98, 117]⟩ x1 x2 d a i s t = some ((s - t) % 4294967296, true) := by
  unfold alu_Do.f
  rw [he, Option.bind_some]
  dsimp only
  rw [if_pos rfl, if_pos (show (⟨#[115, 117, 98, 117]⟩ : ByteArray).toList ∈ aluNames from by rw [l_subu]; decide), aform_subu, Option.bind_some]
  rw [l_dst, if_neg (by decide), if_neg (by decide), if_neg (by decide), if_neg (by decide), if_neg (by decide), if_neg (by decide)]
  rw [l_subu, if_neg (fun h => absurd h.1 (by decide)), if_neg (fun h => absurd h.1 (by decide))]
  have hbo : alu_both.f ⟨#[115, 117, 98, 117]⟩ x1 x2 d a i s t = some ((s - t) % 4294967296) := by
    unfold alu_both.f
    rw [l_subu, if_neg (by decide), if_neg (by decide), if_neg (by decide), if_pos rfl]
  rw [hbo]
  rfl
set_option maxHeartbeats 2000000 in
theorem aval_addiu (x1 x2 d a i s t v : Int) (s0 : 0 ≤ s) (s1 : s ≤ 4294967295) (t0 : 0 ≤ t) (t1 : t ≤ 4294967295) (i0 : 0 ≤ i) (i1 : i ≤ 4294967295) (d0 : 0 ≤ d) (d1 : d < 32) (a0 : 0 ≤ a) (a1 : a < 32) (he : dec_Encode.f ⟨#[97, 100, 100, 105, 117]⟩ x1 x2 d a i = some (v, true)) :
    alu_Do.f ⟨#[97, 100, 100, 105, 117]⟩ x1 x2 d a i s t = some ((s + sxOf i 16) % 4294967296, true) := by
  unfold alu_Do.f
  rw [he, Option.bind_some]
  dsimp only
  rw [if_pos rfl, if_pos (show (⟨#[97, 100, 100, 105, 117]⟩ : ByteArray).toList ∈ aluNames from by rw [l_addiu]; decide), aform_addiu, Option.bind_some]
  rw [l_tsi, if_pos rfl]
  have hsx : swap_Sext.f i 16 = some (sxOf i 16) := swap_Sext_spec i 16 i0 i1 (by decide) (by decide)
  rw [l_addiu, if_neg (fun h => absurd h.1 (by decide))]
  have hsm : alu_small.f ⟨#[97, 100, 100, 105, 117]⟩ x1 x2 d a i s = some ((s + sxOf i 16) % 4294967296) := by
    unfold alu_small.f
    rw [hsx, Option.bind_some, l_addiu, if_neg (by decide), if_pos rfl]
  rw [hsm]
  rfl
set_option maxHeartbeats 2000000 in
theorem aval_and (x1 x2 d a i s t v : Int) (s0 : 0 ≤ s) (s1 : s ≤ 4294967295) (t0 : 0 ≤ t) (t1 : t ≤ 4294967295) (i0 : 0 ≤ i) (i1 : i ≤ 4294967295) (d0 : 0 ≤ d) (d1 : d < 32) (a0 : 0 ≤ a) (a1 : a < 32) (he : dec_Encode.f ⟨#[97, 110, 100]⟩ x1 x2 d a i = some (v, true)) :
    alu_Do.f ⟨#[97, 110, 100]⟩ x1 x2 d a i s t = some (Go.bits .and .u32 s t, true) := by
  unfold alu_Do.f
  rw [he, Option.bind_some]
  dsimp only
  rw [if_pos rfl, if_pos (show (⟨#[97, 110, 100]⟩ : ByteArray).toList ∈ aluNames from by rw [l_and]; decide), aform_and, Option.bind_some]
  rw [l_dst, if_neg (by decide), if_neg (by decide), if_neg (by decide), if_neg (by decide), if_neg (by decide), if_neg (by decide)]
  rw [l_and, if_neg (fun h => absurd h.1 (by decide)), if_neg (fun h => absurd h.1 (by decide))]
  have hbo : alu_both.f ⟨#[97, 110, 100]⟩ x1 x2 d a i s t = some (Go.bits .and .u32 s t) := by
    unfold alu_both.f
    rw [l_and, if_neg (by decide), if_neg (by decide), if_neg (by decide), if_neg (by decide), if_pos rfl]
  rw [hbo]
  rfl
set_option maxHeartbeats 2000000 in
theorem aval_or (x1 x2 d a i s t v : Int) (s0 : 0 ≤ s) (s1 : s ≤ 4294967295) (t0 : 0 ≤ t) (t1 : t ≤ 4294967295) (i0 : 0 ≤ i) (i1 : i ≤ 4294967295) (d0 : 0 ≤ d) (d1 : d < 32) (a0 : 0 ≤ a) (a1 : a < 32) (he : dec_Encode.f ⟨#[111, 114]⟩ x1 x2 d a i = some (v, true)) :
    alu_Do.f ⟨#[111, 114]⟩ x1 x2 d a i s t = some (Go.bits .or .u32 s t, true) := by
  unfold alu_Do.f
  rw [he, Option.bind_some]
  dsimp only
  rw [if_pos rfl, if_pos (show (⟨#[111, 114]⟩ : ByteArray).toList ∈ aluNames from by rw [l_or]; decide), aform_or, Option.bind_some]
  rw [l_dst, if_neg (by decide), if_neg (by decide), if_neg (by decide), if_neg (by decide), if_neg (by decide), if_neg (by decide)]
  rw [l_or, if_neg (fun h => absurd h.1 (by decide)), if_neg (fun h => absurd h.1 (by decide))]
  have hbo : alu_both.f ⟨#[111, 114]⟩ x1 x2 d a i s t = some (Go.bits .or .u32 s t) := by
    unfold alu_both.f
    rw [l_or, if_neg (by decide), if_neg (by decide), if_neg (by decide), if_neg (by decide), if_neg (by decide), if_pos rfl]
  rw [hbo]
  rfl
set_option maxHeartbeats 2000000 in
theorem aval_xor (x1 x2 d a i s t v : Int) (s0 : 0 ≤ s) (s1 : s ≤ 4294967295) (t0 : 0 ≤ t) (t1 : t ≤ 4294967295) (i0 : 0 ≤ i) (i1 : i ≤ 4294967295) (d0 : 0 ≤ d) (d1 : d < 32) (a0 : 0 ≤ a) (a1 : a < 32) (he : dec_Encode.f ⟨#[120, 111, 114]⟩ x1 x2 d a i = some (v, true)) :
    alu_Do.f ⟨#[120, 111, 114]⟩ x1 x2 d a i s t = some (Go.bits .xor .u32 s t, true) := by
  unfold alu_Do.f
  rw [he, Option.bind_some]
  dsimp only
  rw [if_pos rfl, if_pos (show (⟨#[120, 111, 114]⟩ : ByteArray).toList ∈ aluNames from by rw [l_xor]; decide), aform_xor, Option.bind_some]
  rw [l_dst, if_neg (by decide), if_neg (by decide), if_neg (by decide), if_neg (by decide), if_neg (by decide), if_neg (by decide)]
  rw [l_xor, if_neg (fun h => absurd h.1 (by decide)), if_neg (fun h => absurd h.1 (by decide))]
  have hbo : alu_both.f ⟨#[120, 111, 114]⟩ x1 x2 d a i s t = some (Go.bits .xor .u32 s t) := by
    unfold alu_both.f
    rw [l_xor, if_neg (by decide), if_neg (by decide), if_neg (by decide), if_neg (by decide), if_neg (by decide), if_neg (by decide), if_pos rfl]
  rw [hbo]
  rfl
set_option maxHeartbeats 2000000 in
theorem aval_nor (x1 x2 d a i s t v : Int) (s0 : 0 ≤ s) (s1 : s ≤ 4294967295) (t0 : 0 ≤ t) (t1 : t ≤ 4294967295) (i0 : 0 ≤ i) (i1 : i ≤ 4294967295) (d0 : 0 ≤ d) (d1 : d < 32) (a0 : 0 ≤ a) (a1 : a < 32) (he : dec_Encode.f ⟨#[110, 111, 114]⟩ x1 x2 d a i = some (v, true)) :
    alu_Do.f ⟨#[110, 111, 114]⟩ x1 x2 d a i s t = some (4294967295 - Go.bits .or .u32 s t, true) := by
  unfold alu_Do.f
  rw [he, Option.bind_some]
  dsimp only
  rw [if_pos rfl, if_pos (show (⟨#[110, 111, 114]⟩ : ByteArray).toList ∈ aluNames from by rw [l_nor]; decide), aform_nor, Option.bind_some]
  rw [l_dst, if_neg (by decide), if_neg (by decide), if_neg (by decide), if_neg (by decide), if_neg (by decide), if_neg (by decide)]
  rw [l_nor, if_neg (fun h => absurd h.1 (by decide)), if_neg (fun h => absurd h.1 (by decide))]
  have hbo : alu_both.f ⟨#[110, 111, 114]⟩ x1 x2 d a i s t = some (4294967295 - Go.bits .or .u32 s t) := by
    unfold alu_both.f
    rw [l_nor, if_neg (by decide), if_neg (by decide), if_neg (by decide), if_neg (by decide), if_neg (by decide), if_neg (by decide), if_neg (by decide), if_pos rfl]
    have hb := bits_range .or (.inr (.inl rfl)) s0 s1 t0 t1
    rw [bits_not hb.1 hb.2]
  rw [hbo]
  rfl
set_option maxHeartbeats 2000000 in
theorem aval_andi (x1 x2 d a i s t v : Int) (s0 : 0 ≤ s) (s1 : s ≤ 4294967295) (t0 : 0 ≤ t) (t1 : t ≤ 4294967295) (i0 : 0 ≤ i) (i1 : i ≤ 4294967295) (d0 : 0 ≤ d) (d1 : d < 32) (a0 : 0 ≤ a) (a1 : a < 32) (he : dec_Encode.f ⟨#[97, 110, 100, 105]⟩ x1 x2 d a i = some (v, true)) :
    alu_Do.f ⟨#[97, 110, 100, 105]⟩ x1 x2 d a i s t = some (Go.bits .and .u32 s i, true) := by
  unfold alu_Do.f
  rw [he, Option.bind_some]
  dsimp only
  rw [if_pos rfl, if_pos (show (⟨#[97, 110, 100, 105]⟩ : ByteArray).toList ∈ aluNames from by rw [l_andi]; decide), aform_andi, Option.bind_some]
  rw [l_tsi, if_pos rfl]
  have hsx : swap_Sext.f i 16 = some (sxOf i 16) := swap_Sext_spec i 16 i0 i1 (by decide) (by decide)
  rw [l_andi, if_neg (fun h => absurd h.1 (by decide))]
  have hsm : alu_small.f ⟨#[97, 110, 100, 105]⟩ x1 x2 d a i s = some (Go.bits .and .u32 s i) := by
    unfold alu_small.f
    rw [hsx, Option.bind_some, l_andi, if_neg (by decide), if_neg (by decide), if_pos rfl]
  rw [hsm]
  rfl
set_option maxHeartbeats 2000000 in
theorem aval_ori (x1 x2 d a i s t v : Int) (s0 : 0 ≤ s) (s1 : s ≤ 4294967295) (t0 : 0 ≤ t) (t1 : t ≤ 4294967295) (i0 : 0 ≤ i) (i1 : i ≤ 4294967295) (d0 : 0 ≤ d) (d1 : d < 32) (a0 : 0 ≤ a) (a1 : a < 32) (he : dec_Encode.f ⟨#[111, 114, 105]⟩ x1 x2 d a i = some (v, true)) :
    alu_Do.f ⟨#[111, 114, 105]⟩ x1 x2 d a i s t = some (Go.bits .or .u32 s i, true) := by
  unfold alu_Do.f
  rw [he, Option.bind_some]
  dsimp only
  rw [if_pos rfl, if_pos (show (⟨#[111, 114, 105]⟩ : ByteArray).toList ∈ aluNames from by rw [l_ori]; decide), aform_ori, Option.bind_some]
  rw [l_tsi, if_pos rfl]
  have hsx : swap_Sext.f i 16 = some (sxOf i 16) := swap_Sext_spec i 16 i0 i1 (by decide) (by decide)
  rw [l_ori, if_neg (fun h => absurd h.1 (by decide))]
  have hsm : alu_small.f ⟨#[111, 114, 105]⟩ x1 x2 d a i s = some (Go.bits .or .u32 s i) := by
    unfold alu_small.f
    rw [hsx, Option.bind_some, l_ori, if_neg (by decide), if_neg (by decide), if_neg (by decide), if_pos rfl]
  rw [hsm]
  rfl
set_option maxHeartbeats 2000000 in
theorem aval_xori (x1 x2 d a i s t v : Int) (s0 : 0 ≤ s) (s1 : s ≤ 4294967295) (t0 : 0 ≤ t) (t1 : t ≤ 4294967295) (i0 : 0 ≤ i) (i1 : i ≤ 4294967295) (d0 : 0 ≤ d) (d1 : d < 32) (a0 : 0 ≤ a) (a1 : a < 32) (he : dec_Encode.f ⟨#[120, 111, 114, 105]⟩ x1 x2 d a i = some (v, true)) :
    alu_Do.f ⟨#[120, 111, 114, 105]⟩ x1 x2 d a i s t = some (Go.bits .xor .u32 s i, true) := by
  unfold alu_Do.f
  rw [he, Option.bind_some]
  dsimp only
  rw [if_pos rfl, if_pos (show (⟨#[120, 111, 114, 105]⟩ : ByteArray).toList ∈ aluNames from by rw [l_xori]; decide), aform_xori, Option.bind_some]
  rw [l_tsi, if_pos rfl]
  have hsx : swap_Sext.f i 16 = some (sxOf i 16) := swap_Sext_spec i 16 i0 i1 (by decide) (by decide)
  rw [l_xori, if_neg (fun h => absurd h.1 (by decide))]
  have hsm : alu_small.f ⟨#[120, 111, 114, 105]⟩ x1 x2 d a i s = some (Go.bits .xor .u32 s i) := by
    unfold alu_small.f
    rw [hsx, Option.bind_some, l_xori, if_neg (by decide), if_neg (by decide), if_neg (by decide), if_neg (by decide), if_pos rfl]
  rw [hsm]
  rfl
set_option maxHeartbeats 2000000 in
theorem aval_slt (x1 x2 d a i s t v : Int) (s0 : 0 ≤ s) (s1 : s ≤ 4294967295) (t0 : 0 ≤ t) (t1 : t ≤ 4294967295) (i0 : 0 ≤ i) (i1 : i ≤ 4294967295) (d0 : 0 ≤ d) (d1 : d < 32) (a0 : 0 ≤ a) (a1 : a < 32) (he : dec_Encode.f ⟨#[115, 108, 116]⟩ x1 x2 d a i = some (v, true)) :
    alu_Do.f ⟨#[115, 108, 116]⟩ x1 x2 d a i s t = some ((if wrap32 s < wrap32 t then 1 else 0), true) := by
  unfold alu_Do.f
  rw [he, Option.bind_some]
  dsimp only
  rw [if_pos rfl, if_pos (show (⟨#[115, 108, 116]⟩ : ByteArray).toList ∈ aluNames from by rw [l_slt]; decide), aform_slt, Option.bind_some]
  rw [l_dst, if_neg (by decide), if_neg (by decide), if_neg (by decide), if_neg (by decide), if_neg (by decide), if_neg (by decide)]
  rw [l_slt, if_neg (fun h => absurd h.1 (by decide)), if_neg (fun h => absurd h.1 (by decide))]
  have hbo : alu_both.f ⟨#[115, 108, 116]⟩ x1 x2 d a i s t = some ((if wrap32 s < wrap32 t then 1 else 0)) := by
    unfold alu_both.f
    rw [l_slt, if_neg (by decide), if_neg (by decide), if_neg (by decide), if_neg (by decide), if_neg (by decide), if_neg (by decide), if_neg (by decide), if_neg (by decide), if_pos rfl]
    rw [truth_of]
    rfl
  rw [hbo]
  rfl
set_option maxHeartbeats 2000000 in
theorem aval_sltu (x1 x2 d a i s t v : Int) (s0 : 0 ≤ s) (s1 : s ≤ 4294967295) (t0 : 0 ≤ t) (t1 : t ≤ 4294967295) (i0 : 0 ≤ i) (i1 : i ≤ 4294967295) (d0 : 0 ≤ d) (d1 : d < 32) (a0 : 0 ≤ a) (a1 : a < 32) (he : dec_Encode.f ⟨#[115, 108, 116, 117]⟩ x1 x2 d a i = some (v, true)) :
    alu_Do.f ⟨#[115, 108, 116, 117]⟩ x1 x2 d a i s t = some ((if s < t then 1 else 0), true) := by
  unfold alu_Do.f
  rw [he, Option.bind_some]
  dsimp only
  rw [if_pos rfl, if_pos (show (⟨#[115, 108, 116, 117]⟩ : ByteArray).toList ∈ aluNames from by rw [l_sltu]; decide), aform_sltu, Option.bind_some]
  rw [l_dst, if_neg (by decide), if_neg (by decide), if_neg (by decide), if_neg (by decide), if_neg (by decide), if_neg (by decide)]
  rw [l_sltu, if_neg (fun h => absurd h.1 (by decide)), if_neg (fun h => absurd h.1 (by decide))]
  have hbo : alu_both.f ⟨#[115, 108, 116, 117]⟩ x1 x2 d a i s t = some ((if s < t then 1 else 0)) := by
    unfold alu_both.f
    rw [l_sltu, if_neg (by decide), if_neg (by decide), if_neg (by decide), if_neg (by decide), if_neg (by decide), if_neg (by decide), if_neg (by decide), if_neg (by decide), if_neg (by decide), if_pos rfl]
    rw [truth_of]
    rfl
  rw [hbo]
  rfl
set_option maxHeartbeats 2000000 in
theorem aval_slti (x1 x2 d a i s t v : Int) (s0 : 0 ≤ s) (s1 : s ≤ 4294967295) (t0 : 0 ≤ t) (t1 : t ≤ 4294967295) (i0 : 0 ≤ i) (i1 : i ≤ 4294967295) (d0 : 0 ≤ d) (d1 : d < 32) (a0 : 0 ≤ a) (a1 : a < 32) (he : dec_Encode.f ⟨#[115, 108, 116, 105]⟩ x1 x2 d a i = some (v, true)) :
    alu_Do.f ⟨#[115, 108, 116, 105]⟩ x1 x2 d a i s t = some ((if wrap32 s < wrap32 (sxOf i 16) then 1 else 0), true) := by
  unfold alu_Do.f
  rw [he, Option.bind_some]
  dsimp only
  rw [if_pos rfl, if_pos (show (⟨#[115, 108, 116, 105]⟩ : ByteArray).toList ∈ aluNames from by rw [l_slti]; decide), aform_slti, Option.bind_some]
  rw [l_tsi, if_pos rfl]
  have hsx : swap_Sext.f i 16 = some (sxOf i 16) := swap_Sext_spec i 16 i0 i1 (by decide) (by decide)
  rw [l_slti, if_neg (fun h => absurd h.1 (by decide))]
  have hsm : alu_small.f ⟨#[115, 108, 116, 105]⟩ x1 x2 d a i s = some ((if wrap32 s < wrap32 (sxOf i 16) then 1 else 0)) := by
    unfold alu_small.f
    rw [hsx, Option.bind_some, l_slti, if_neg (by decide), if_neg (by decide), if_neg (by decide), if_neg (by decide), if_neg (by decide), if_pos rfl]
    rw [truth_of]
    rfl
  rw [hsm]
  rfl
set_option maxHeartbeats 2000000 in
theorem aval_sltiu (x1 x2 d a i s t v : Int) (s0 : 0 ≤ s) (s1 : s ≤ 4294967295) (t0 : 0 ≤ t) (t1 : t ≤ 4294967295) (i0 : 0 ≤ i) (i1 : i ≤ 4294967295) (d0 : 0 ≤ d) (d1 : d < 32) (a0 : 0 ≤ a) (a1 : a < 32) (he : dec_Encode.f ⟨#[115, 108, 116, 105, 117]⟩ x1 x2 d a i = some (v, true)) :
    alu_Do.f ⟨#[115, 108, 116, 105, 117]⟩ x1 x2 d a i s t = some ((if s < sxOf i 16 then 1 else 0), true) := by
  unfold alu_Do.f
  rw [he, Option.bind_some]
  dsimp only
  rw [if_pos rfl, if_pos (show (⟨#[115, 108, 116, 105, 117]⟩ : ByteArray).toList ∈ aluNames from by rw [l_sltiu]; decide), aform_sltiu, Option.bind_some]
  rw [l_tsi, if_pos rfl]
  have hsx : swap_Sext.f i 16 = some (sxOf i 16) := swap_Sext_spec i 16 i0 i1 (by decide) (by decide)
  rw [l_sltiu, if_neg (fun h => absurd h.1 (by decide))]
  have hsm : alu_small.f ⟨#[115, 108, 116, 105, 117]⟩ x1 x2 d a i s = some ((if s < sxOf i 16 then 1 else 0)) := by
    unfold alu_small.f
    rw [hsx, Option.bind_some, l_sltiu, if_neg (by decide), if_neg (by decide), if_neg (by decide), if_neg (by decide), if_neg (by decide), if_neg (by decide), if_pos rfl]
    rw [truth_of]
    rfl
  rw [hsm]
  rfl
set_option maxHeartbeats 2000000 in
theorem aval_lui (x1 x2 d a i s t v : Int) (s0 : 0 ≤ s) (s1 : s ≤ 4294967295) (t0 : 0 ≤ t) (t1 : t ≤ 4294967295) (i0 : 0 ≤ i) (i1 : i ≤ 4294967295) (d0 : 0 ≤ d) (d1 : d < 32) (a0 : 0 ≤ a) (a1 : a < 32) (he : dec_Encode.f ⟨#[108, 117, 105]⟩ x1 x2 d a i = some (v, true)) :
    alu_Do.f ⟨#[108, 117, 105]⟩ x1 x2 d a i s t = some (i * 65536 % 4294967296, true) := by
  unfold alu_Do.f
  rw [he, Option.bind_some]
  dsimp only
  rw [if_pos rfl, if_pos (show (⟨#[108, 117, 105]⟩ : ByteArray).toList ∈ aluNames from by rw [l_lui]; decide), aform_lui, Option.bind_some]
  rw [l_ti, if_neg (by decide), if_pos rfl]
  have hsx : swap_Sext.f i 16 = some (sxOf i 16) := swap_Sext_spec i 16 i0 i1 (by decide) (by decide)
  have hsm : alu_small.f ⟨#[108, 117, 105]⟩ x1 x2 d a i s = some (i * 65536 % 4294967296) := by
    unfold alu_small.f
    rw [hsx, Option.bind_some, l_lui, if_neg (by decide), if_neg (by decide), if_neg (by decide), if_neg (by decide), if_neg (by decide), if_neg (by decide), if_neg (by decide)]
  rw [hsm]
  rfl
set_option maxHeartbeats 2000000 in
theorem aval_sll (x1 x2 d a i s t v : Int) (s0 : 0 ≤ s) (s1 : s ≤ 4294967295) (t0 : 0 ≤ t) (t1 : t ≤ 4294967295) (i0 : 0 ≤ i) (i1 : i ≤ 4294967295) (d0 : 0 ≤ d) (d1 : d < 32) (a0 : 0 ≤ a) (a1 : a < 32) (he : dec_Encode.f ⟨#[115, 108, 108]⟩ x1 x2 d a i = some (v, true)) :
    alu_Do.f ⟨#[115, 108, 108]⟩ x1 x2 d a i s t = some (t * 2 ^ a.toNat % 4294967296, true) := by
  unfold alu_Do.f
  rw [he, Option.bind_some]
  dsimp only
  rw [if_pos rfl, if_pos (show (⟨#[115, 108, 108]⟩ : ByteArray).toList ∈ aluNames from by rw [l_sll]; decide), aform_sll, Option.bind_some]
  rw [l_dta, if_neg (by decide), if_neg (by decide), if_pos rfl]
  have hsh : alu_shift.f ⟨#[115, 108, 108]⟩ t a = some (t * 2 ^ a.toNat % 4294967296) := by
    unfold alu_shift.f
    rw [trim_sll, Option.bind_some]
    rw [l_sll, if_pos rfl]
    obtain ⟨k, rfl⟩ : ∃ k : Nat, a = k := ⟨a.toNat, by omega⟩
    rw [Int.toNat_natCast]
    have hk1 : k < 32 := by omega
    rw [if_pos (by omega), shl32 _ _ (by omega)]
  rw [hsh]
  rfl
set_option maxHeartbeats 2000000 in
theorem aval_srl (x1 x2 d a i s t v : Int) (s0 : 0 ≤ s) (s1 : s ≤ 4294967295) (t0 : 0 ≤ t) (t1 : t ≤ 4294967295) (i0 : 0 ≤ i) (i1 : i ≤ 4294967295) (d0 : 0 ≤ d) (d1 : d < 32) (a0 : 0 ≤ a) (a1 : a < 32) (he : dec_Encode.f ⟨#[115, 114, 108]⟩ x1 x2 d a i = some (v, true)) :
    alu_Do.f ⟨#[115, 114, 108]⟩ x1 x2 d a i s t = some (t / 2 ^ a.toNat, true) := by
  unfold alu_Do.f
  rw [he, Option.bind_some]
  dsimp only
  rw [if_pos rfl, if_pos (show (⟨#[115, 114, 108]⟩ : ByteArray).toList ∈ aluNames from by rw [l_srl]; decide), aform_srl, Option.bind_some]
  rw [l_dta, if_neg (by decide), if_neg (by decide), if_pos rfl]
  have hsh : alu_shift.f ⟨#[115, 114, 108]⟩ t a = some (t / 2 ^ a.toNat) := by
    unfold alu_shift.f
    rw [trim_srl, Option.bind_some]
    rw [l_srl, if_neg (by decide), if_pos rfl]
    obtain ⟨k, rfl⟩ : ∃ k : Nat, a = k := ⟨a.toNat, by omega⟩
    rw [Int.toNat_natCast]
    have hk1 : k < 32 := by omega
    rw [if_pos (by omega), shr32 _ rfl _ _ (by omega)]
  rw [hsh]
  rfl
set_option maxHeartbeats 2000000 in
theorem aval_sra (x1 x2 d a i s t v : Int) (s0 : 0 ≤ s) (s1 : s ≤ 4294967295) (t0 : 0 ≤ t) (t1 : t ≤ 4294967295) (i0 : 0 ≤ i) (i1 : i ≤ 4294967295) (d0 : 0 ≤ d) (d1 : d < 32) (a0 : 0 ≤ a) (a1 : a < 32) (he : dec_Encode.f ⟨#[115, 114, 97]⟩ x1 x2 d a i = some (v, true)) :
    alu_Do.f ⟨#[115, 114, 97]⟩ x1 x2 d a i s t = some (wrap32 t / 2 ^ a.toNat % 4294967296, true) := by
  unfold alu_Do.f
  rw [he, Option.bind_some]
  dsimp only
  rw [if_pos rfl, if_pos (show (⟨#[115, 114, 97]⟩ : ByteArray).toList ∈ aluNames from by rw [l_sra]; decide), aform_sra, Option.bind_some]
  rw [l_dta, if_neg (by decide), if_neg (by decide), if_pos rfl]
  have hsh : alu_shift.f ⟨#[115, 114, 97]⟩ t a = some (wrap32 t / 2 ^ a.toNat % 4294967296) := by
    unfold alu_shift.f
    rw [trim_sra, Option.bind_some]
    rw [l_sra, if_neg (by decide), if_neg (by decide), if_pos rfl]
    obtain ⟨k, rfl⟩ : ∃ k : Nat, a = k := ⟨a.toNat, by omega⟩
    rw [Int.toNat_natCast]
    have hk1 : k < 32 := by omega
    rw [if_pos (by omega), shr32 _ rfl _ _ (by omega)]
  rw [hsh]
  rfl
set_option maxHeartbeats 2000000 in
theorem aval_sllv (x1 x2 d a i s t v : Int) (s0 : 0 ≤ s) (s1 : s ≤ 4294967295) (t0 : 0 ≤ t) (t1 : t ≤ 4294967295) (i0 : 0 ≤ i) (i1 : i ≤ 4294967295) (d0 : 0 ≤ d) (d1 : d < 32) (a0 : 0 ≤ a) (a1 : a < 32) (he : dec_Encode.f ⟨#[115, 108, 108, 118]⟩ x1 x2 d a i = some (v, true)) :
    alu_Do.f ⟨#[115, 108, 108, 118]⟩ x1 x2 d a i s t = some (t * 2 ^ (s % 32).toNat % 4294967296, true) := by
  unfold alu_Do.f
  rw [he, Option.bind_some]
  dsimp only
  rw [if_pos rfl, if_pos (show (⟨#[115, 108, 108, 118]⟩ : ByteArray).toList ∈ aluNames from by rw [l_sllv]; decide), aform_sllv, Option.bind_some]
  rw [l_dts, if_neg (by decide), if_neg (by decide), if_neg (by decide), if_neg (by decide), if_pos rfl]
  have hsh : alu_shift.f ⟨#[115, 108, 108, 118]⟩ t (wrap64 (bits .and .u32 s 31)) = some (t * 2 ^ (s % 32).toNat % 4294967296) := by
    unfold alu_shift.f
    rw [trim_sllv, Option.bind_some]
    rw [l_sll, if_pos rfl]
    rw [w31 s0 s1]
    generalize hk : (s % 32).toNat = k
    have hk1 : k < 32 := by omega
    rw [if_pos (by omega), shl32 _ _ (by omega)]
  rw [hsh]
  rfl
set_option maxHeartbeats 2000000 in
theorem aval_srlv (x1 x2 d a i s t v : Int) (s0 : 0 ≤ s) (s1 : s ≤ 4294967295) (t0 : 0 ≤ t) (t1 : t ≤ 4294967295) (i0 : 0 ≤ i) (i1 : i ≤ 4294967295) (d0 : 0 ≤ d) (d1 : d < 32) (a0 : 0 ≤ a) (a1 : a < 32) (he : dec_Encode.f ⟨#[115, 114, 108, 118]⟩ x1 x2 d a i = some (v, true)) :
    alu_Do.f ⟨#[115, 114, 108, 118]⟩ x1 x2 d a i s t = some (t / 2 ^ (s % 32).toNat, true) := by
  unfold alu_Do.f
  rw [he, Option.bind_some]
  dsimp only
  rw [if_pos rfl, if_pos (show (⟨#[115, 114, 108, 118]⟩ : ByteArray).toList ∈ aluNames from by rw [l_srlv]; decide), aform_srlv, Option.bind_some]
  rw [l_dts, if_neg (by decide), if_neg (by decide), if_neg (by decide), if_neg (by decide), if_pos rfl]
  have hsh : alu_shift.f ⟨#[115, 114, 108, 118]⟩ t (wrap64 (bits .and .u32 s 31)) = some (t / 2 ^ (s % 32).toNat) := by
    unfold alu_shift.f
    rw [trim_srlv, Option.bind_some]
    rw [l_srl, if_neg (by decide), if_pos rfl]
    rw [w31 s0 s1]
    generalize hk : (s % 32).toNat = k
    have hk1 : k < 32 := by omega
    rw [if_pos (by omega), shr32 _ rfl _ _ (by omega)]
  rw [hsh]
  rfl
set_option maxHeartbeats 2000000 in
theorem aval_srav (x1 x2 d a i s t v : Int) (s0 : 0 ≤ s) (s1 : s ≤ 4294967295) (t0 : 0 ≤ t) (t1 : t ≤ 4294967295) (i0 : 0 ≤ i) (i1 : i ≤ 4294967295) (d0 : 0 ≤ d) (d1 : d < 32) (a0 : 0 ≤ a) (a1 : a < 32) (he : dec_Encode.f ⟨#[115, 114, 97, 118]⟩ x1 x2 d a i = some (v, true)) :
    alu_Do.f ⟨#[115, 114, 97, 118]⟩ x1 x2 d a i s t = some (wrap32 t / 2 ^ (s % 32).toNat % 4294967296, true) := by
  unfold alu_Do.f
  rw [he, Option.bind_some]
  dsimp only
  rw [if_pos rfl, if_pos (show (⟨#[115, 114, 97, 118]⟩ : ByteArray).toList ∈ aluNames from by rw [l_srav]; decide), aform_srav, Option.bind_some]
  rw [l_dts, if_neg (by decide), if_neg (by decide), if_neg (by decide), if_neg (by decide), if_pos rfl]
  have hsh : alu_shift.f ⟨#[115, 114, 97, 118]⟩ t (wrap64 (bits .and .u32 s 31)) = some (wrap32 t / 2 ^ (s % 32).toNat % 4294967296) := by
    unfold alu_shift.f
    rw [trim_srav, Option.bind_some]
    rw [l_sra, if_neg (by decide), if_neg (by decide), if_pos rfl]
    rw [w31 s0 s1]
    generalize hk : (s % 32).toNat = k
    have hk1 : k < 32 := by omega
    rw [if_pos (by omega), shr32 _ rfl _ _ (by omega)]
  rw [hsh]
  rfl
set_option maxHeartbeats 2000000 in
theorem aval_rotr (x1 x2 d a i s t v : Int) (s0 : 0 ≤ s) (s1 : s ≤ 4294967295) (t0 : 0 ≤ t) (t1 : t ≤ 4294967295) (i0 : 0 ≤ i) (i1 : i ≤ 4294967295) (d0 : 0 ≤ d) (d1 : d < 32) (a0 : 0 ≤ a) (a1 : a < 32) (he : dec_Encode.f ⟨#[114, 111, 116, 114]⟩ x1 x2 d a i = some (v, true)) :
    alu_Do.f ⟨#[114, 111, 116, 114]⟩ x1 x2 d a i s t = some (rotOf t a.toNat, true) := by
  unfold alu_Do.f
  rw [he, Option.bind_some]
  dsimp only
  rw [if_pos rfl, if_pos (show (⟨#[114, 111, 116, 114]⟩ : ByteArray).toList ∈ aluNames from by rw [l_rotr]; decide), aform_rotr, Option.bind_some]
  rw [l_dtr, if_neg (by decide), if_neg (by decide), if_neg (by decide), if_pos rfl]
  have hsh : alu_shift.f ⟨#[114, 111, 116, 114]⟩ t a = some (rotOf t a.toNat) := by
    unfold alu_shift.f
    rw [trim_rotr, Option.bind_some]
    rw [l_rotr, if_neg (by decide), if_neg (by decide), if_neg (by decide)]
    obtain ⟨k, rfl⟩ : ∃ k : Nat, a = k := ⟨a.toNat, by omega⟩
    rw [Int.toNat_natCast]
    have hk1 : k < 32 := by omega
    rw [swap_Rot_spec t (k : Int) t0 t1, show ((k : Int) % 32).toNat = k from by omega]
    rfl
  rw [hsh]
  rfl
set_option maxHeartbeats 2000000 in
theorem aval_rotrv (x1 x2 d a i s t v : Int) (s0 : 0 ≤ s) (s1 : s ≤ 4294967295) (t0 : 0 ≤ t) (t1 : t ≤ 4294967295) (i0 : 0 ≤ i) (i1 : i ≤ 4294967295) (d0 : 0 ≤ d) (d1 : d < 32) (a0 : 0 ≤ a) (a1 : a < 32) (he : dec_Encode.f ⟨#[114, 111, 116, 114, 118]⟩ x1 x2 d a i = some (v, true)) :
    alu_Do.f ⟨#[114, 111, 116, 114, 118]⟩ x1 x2 d a i s t = some (rotOf t (s % 32).toNat, true) := by
  unfold alu_Do.f
  rw [he, Option.bind_some]
  dsimp only
  rw [if_pos rfl, if_pos (show (⟨#[114, 111, 116, 114, 118]⟩ : ByteArray).toList ∈ aluNames from by rw [l_rotrv]; decide), aform_rotrv, Option.bind_some]
  rw [l_dtv, if_neg (by decide), if_neg (by decide), if_neg (by decide), if_neg (by decide), if_neg (by decide), if_pos rfl]
  have hsh : alu_shift.f ⟨#[114, 111, 116, 114, 118]⟩ t (wrap64 (bits .and .u32 s 31)) = some (rotOf t (s % 32).toNat) := by
    unfold alu_shift.f
    rw [trim_rotrv, Option.bind_some]
    rw [l_rotr, if_neg (by decide), if_neg (by decide), if_neg (by decide)]
    rw [w31 s0 s1]
    generalize hk : (s % 32).toNat = k
    have hk1 : k < 32 := by omega
    rw [swap_Rot_spec t (k : Int) t0 t1, show ((k : Int) % 32).toNat = k from by omega]
    rfl
  rw [hsh]
  rfl
set_option maxHeartbeats 2000000 in
theorem aval_mul (x1 x2 d a i s t v : Int) (s0 : 0 ≤ s) (s1 : s ≤ 4294967295) (t0 : 0 ≤ t) (t1 : t ≤ 4294967295) (i0 : 0 ≤ i) (i1 : i ≤ 4294967295) (d0 : 0 ≤ d) (d1 : d < 32) (a0 : 0 ≤ a) (a1 : a < 32) (he : dec_Encode.f ⟨#[109, 117, 108]⟩ x1 x2 d a i = some (v, true)) :
    alu_Do.f ⟨#[109, 117, 108]⟩ x1 x2 d a i s t = some (s * t % 4294967296, true) := by
  unfold alu_Do.f
  rw [he, Option.bind_some]
  dsimp only
  rw [if_pos rfl, if_pos (show (⟨#[109, 117, 108]⟩ : ByteArray).toList ∈ aluNames from by rw [l_mul]; decide), aform_mul, Option.bind_some]
  rw [l_dst, if_neg (by decide), if_neg (by decide), if_neg (by decide), if_neg (by decide), if_neg (by decide), if_neg (by decide)]
  rw [l_mul, if_neg (fun h => absurd h.1 (by decide)), if_neg (fun h => absurd h.1 (by decide))]
  have hbo : alu_both.f ⟨#[109, 117, 108]⟩ x1 x2 d a i s t = some (s * t % 4294967296) := by
    unfold alu_both.f
    rw [l_mul, if_neg (by decide), if_neg (by decide), if_neg (by decide), if_neg (by decide), if_neg (by decide), if_neg (by decide), if_neg (by decide), if_neg (by decide), if_neg (by decide), if_neg (by decide)]
    unfold alu_fields.f
    rw [l_mul, if_neg (by decide), if_neg (by decide), if_neg (by decide), if_neg (by decide), if_neg (by decide), if_neg (by decide), if_neg (by decide)]
    rfl
  rw [hbo]
  rfl
set_option maxHeartbeats 2000000 in
theorem aval_clz (x1 x2 d a i s t v : Int) (s0 : 0 ≤ s) (s1 : s ≤ 4294967295) (t0 : 0 ≤ t) (t1 : t ≤ 4294967295) (i0 : 0 ≤ i) (i1 : i ≤ 4294967295) (d0 : 0 ≤ d) (d1 : d < 32) (a0 : 0 ≤ a) (a1 : a < 32) (he : dec_Encode.f ⟨#[99, 108, 122]⟩ x1 x2 d a i = some (v, true)) :
    alu_Do.f ⟨#[99, 108, 122]⟩ x1 x2 d a i s t = some (32 - (Lib.bitLen s.toNat : Int), true) := by
  unfold alu_Do.f
  rw [he, Option.bind_some]
  dsimp only
  rw [if_pos rfl, if_pos (show (⟨#[99, 108, 122]⟩ : ByteArray).toList ∈ aluNames from by rw [l_clz]; decide), aform_clz, Option.bind_some]
  rw [l_dsd, if_neg (by decide), if_neg (by decide), if_neg (by decide), if_neg (by decide), if_neg (by decide), if_neg (by decide)]
  rw [l_clz, if_neg (fun h => absurd h.1 (by decide)), if_neg (fun h => absurd h.1 (by decide))]
  have hbo : alu_both.f ⟨#[99, 108, 122]⟩ x1 x2 d a i s t = some (32 - (Lib.bitLen s.toNat : Int)) := by
    unfold alu_both.f
    rw [l_clz, if_neg (by decide), if_neg (by decide), if_neg (by decide), if_neg (by decide), if_neg (by decide), if_neg (by decide), if_neg (by decide), if_neg (by decide), if_neg (by decide), if_neg (by decide)]
    unfold alu_fields.f
    rw [l_clz, if_neg (by decide), if_neg (by decide), if_neg (by decide), if_neg (by decide), if_neg (by decide), if_pos rfl]
    rw [zeros_of s s0 s1, Option.bind_some, Option.bind_some]
    have l := (len_facts s.toNat (by omega)).1
    rw [Int.emod_eq_of_lt (by omega) (by omega)]
  rw [hbo]
  rfl
set_option maxHeartbeats 2000000 in
theorem aval_clo (x1 x2 d a i s t v : Int) (s0 : 0 ≤ s) (s1 : s ≤ 4294967295) (t0 : 0 ≤ t) (t1 : t ≤ 4294967295) (i0 : 0 ≤ i) (i1 : i ≤ 4294967295) (d0 : 0 ≤ d) (d1 : d < 32) (a0 : 0 ≤ a) (a1 : a < 32) (he : dec_Encode.f ⟨#[99, 108, 111]⟩ x1 x2 d a i = some (v, true)) :
    alu_Do.f ⟨#[99, 108, 111]⟩ x1 x2 d a i s t = some (32 - (Lib.bitLen (4294967295 - s).toNat : Int), true) := by
  unfold alu_Do.f
  rw [he, Option.bind_some]
  dsimp only
  rw [if_pos rfl, if_pos (show (⟨#[99, 108, 111]⟩ : ByteArray).toList ∈ aluNames from by rw [l_clo]; decide), aform_clo, Option.bind_some]
  rw [l_dsd, if_neg (by decide), if_neg (by decide), if_neg (by decide), if_neg (by decide), if_neg (by decide), if_neg (by decide)]
  rw [l_clo, if_neg (fun h => absurd h.1 (by decide)), if_neg (fun h => absurd h.1 (by decide))]
  have hbo : alu_both.f ⟨#[99, 108, 111]⟩ x1 x2 d a i s t = some (32 - (Lib.bitLen (4294967295 - s).toNat : Int)) := by
    unfold alu_both.f
    rw [l_clo, if_neg (by decide), if_neg (by decide), if_neg (by decide), if_neg (by decide), if_neg (by decide), if_neg (by decide), if_neg (by decide), if_neg (by decide), if_neg (by decide), if_neg (by decide)]
    unfold alu_fields.f
    rw [l_clo, if_neg (by decide), if_neg (by decide), if_neg (by decide), if_neg (by decide), if_neg (by decide), if_neg (by decide), if_pos rfl]
    rw [bits_not s0 s1, zeros_of _ (by omega) (by omega), Option.bind_some, Option.bind_some]
    have l := (len_facts (4294967295 - s).toNat (by omega)).1
    rw [Int.emod_eq_of_lt (by omega) (by omega)]
  rw [hbo]
  rfl
set_option maxHeartbeats 2000000 in
theorem aval_ext (x1 x2 d a i s t v : Int) (s0 : 0 ≤ s) (s1 : s ≤ 4294967295) (t0 : 0 ≤ t) (t1 : t ≤ 4294967295) (i0 : 0 ≤ i) (i1 : i ≤ 4294967295) (d0 : 0 ≤ d) (d1 : d < 32) (a0 : 0 ≤ a) (a1 : a < 32) (he : dec_Encode.f ⟨#[101, 120, 116]⟩ x1 x2 d a i = some (v, true)) :
    alu_Do.f ⟨#[101, 120, 116]⟩ x1 x2 d a i s t = some (Go.bits .and .u32 (s / 2 ^ a.toNat) (2 ^ (d + 1).toNat - 1), true) := by
  unfold alu_Do.f
  rw [he, Option.bind_some]
  dsimp only
  rw [if_pos rfl, if_pos (show (⟨#[101, 120, 116]⟩ : ByteArray).toList ∈ aluNames from by rw [l_ext]; decide), aform_ext, Option.bind_some]
  rw [l_tsx, if_neg (by decide), if_neg (by decide), if_neg (by decide), if_neg (by decide), if_neg (by decide), if_neg (by decide)]
  rw [l_ext, if_neg (fun h => absurd h.1 (by decide)), if_neg (fun h => absurd h.1 (by decide))]
  have hbo : alu_both.f ⟨#[101, 120, 116]⟩ x1 x2 d a i s t = some (Go.bits .and .u32 (s / 2 ^ a.toNat) (2 ^ (d + 1).toNat - 1)) := by
    unfold alu_both.f
    rw [l_ext, if_neg (by decide), if_neg (by decide), if_neg (by decide), if_neg (by decide), if_neg (by decide), if_neg (by decide), if_neg (by decide), if_neg (by decide), if_neg (by decide), if_neg (by decide)]
    unfold alu_fields.f
    rw [l_ext, if_pos rfl]
    have e : wrap64 (d + 1) = ((d + 1).toNat : Int) := by rw [w64_id (by omega) (by omega)]; omega
    rw [if_pos a0, e, ones_of _ (by omega), Option.bind_some, Option.bind_some, show a = ((a.toNat : Nat) : Int) from by omega, shr32 _ rfl _ _ (by omega), Int.toNat_natCast]
  rw [hbo]
  rfl
set_option maxHeartbeats 2000000 in
theorem aval_ins (x1 x2 d a i s t v : Int) (s0 : 0 ≤ s) (s1 : s ≤ 4294967295) (t0 : 0 ≤ t) (t1 : t ≤ 4294967295) (i0 : 0 ≤ i) (i1 : i ≤ 4294967295) (d0 : 0 ≤ d) (d1 : d < 32) (a0 : 0 ≤ a) (a1 : a < 32) (hda : a ≤ d) (he : dec_Encode.f ⟨#[105, 110, 115]⟩ x1 x2 d a i = some (v, true)) :
    alu_Do.f ⟨#[105, 110, 115]⟩ x1 x2 d a i s t = some (Go.bits .or .u32 (Go.bits .andNot .u32 t ((2 ^ (d + 1 - a).toNat - 1) * 2 ^ a.toNat % 4294967296)) (Go.bits .and .u32 (s * 2 ^ a.toNat % 4294967296) ((2 ^ (d + 1 - a).toNat - 1) * 2 ^ a.toNat % 4294967296)), true) := by
  unfold alu_Do.f
  rw [he, Option.bind_some]
  dsimp only
  rw [if_pos rfl, if_pos (show (⟨#[105, 110, 115]⟩ : ByteArray).toList ∈ aluNames from by rw [l_ins]; decide), aform_ins, Option.bind_some]
  rw [l_tsx, if_neg (by decide), if_neg (by decide), if_neg (by decide), if_neg (by decide), if_neg (by decide), if_neg (by decide)]
  rw [l_ins, if_neg (fun h => absurd h.1 (by decide)), if_neg (fun h => absurd h.1 (by decide))]
  have hbo : alu_both.f ⟨#[105, 110, 115]⟩ x1 x2 d a i s t = some (Go.bits .or .u32 (Go.bits .andNot .u32 t ((2 ^ (d + 1 - a).toNat - 1) * 2 ^ a.toNat % 4294967296)) (Go.bits .and .u32 (s * 2 ^ a.toNat % 4294967296) ((2 ^ (d + 1 - a).toNat - 1) * 2 ^ a.toNat % 4294967296))) := by
    unfold alu_both.f
    rw [l_ins, if_neg (by decide), if_neg (by decide), if_neg (by decide), if_neg (by decide), if_neg (by decide), if_neg (by decide), if_neg (by decide), if_neg (by decide), if_neg (by decide), if_neg (by decide)]
    unfold alu_fields.f
    rw [l_ins, if_neg (by decide), if_pos rfl]
    have e : wrap64 (wrap64 (d + 1) - a) = ((d + 1 - a).toNat : Int) := by rw [w64_id (n := d + 1) (by omega) (by omega), w64_id (by omega) (by omega)]; omega
    have ea : a = ((a.toNat : Nat) : Int) := by omega
    rw [if_pos a0, e, ones_of _ (by omega), Option.bind_some, Option.bind_some]
    generalize (2 : Int) ^ (d + 1 - a).toNat - 1 = m
    rw [ea, shl32 _ _ (by omega), shl32 _ _ (by omega), Int.toNat_natCast]
  rw [hbo]
  rfl
set_option maxHeartbeats 2000000 in
theorem aval_wsbh (x1 x2 d a i s t v : Int) (s0 : 0 ≤ s) (s1 : s ≤ 4294967295) (t0 : 0 ≤ t) (t1 : t ≤ 4294967295) (i0 : 0 ≤ i) (i1 : i ≤ 4294967295) (d0 : 0 ≤ d) (d1 : d < 32) (a0 : 0 ≤ a) (a1 : a < 32) (he : dec_Encode.f ⟨#[119, 115, 98, 104]⟩ x1 x2 d a i = some (v, true)) :
    alu_Do.f ⟨#[119, 115, 98, 104]⟩ x1 x2 d a i s t = some (swOf t, true) := by
  unfold alu_Do.f
  rw [he, Option.bind_some]
  dsimp only
  rw [if_pos rfl, if_pos (show (⟨#[119, 115, 98, 104]⟩ : ByteArray).toList ∈ aluNames from by rw [l_wsbh]; decide), aform_wsbh, Option.bind_some]
  rw [l_dt, if_neg (by decide), if_neg (by decide), if_neg (by decide), if_neg (by decide), if_neg (by decide), if_neg (by decide)]
  rw [l_wsbh, if_neg (fun h => absurd h.1 (by decide)), if_neg (fun h => absurd h.1 (by decide))]
  have hbo : alu_both.f ⟨#[119, 115, 98, 104]⟩ x1 x2 d a i s t = some (swOf t) := by
    unfold alu_both.f
    rw [l_wsbh, if_neg (by decide), if_neg (by decide), if_neg (by decide), if_neg (by decide), if_neg (by decide), if_neg (by decide), if_neg (by decide), if_neg (by decide), if_neg (by decide), if_neg (by decide)]
    unfold alu_fields.f
    rw [l_wsbh, if_neg (by decide), if_neg (by decide), if_pos rfl]
    rw [wsbh_of t t0 t1]
    rfl
  rw [hbo]
  rfl
set_option maxHeartbeats 2000000 in
theorem aval_seb (x1 x2 d a i s t v : Int) (s0 : 0 ≤ s) (s1 : s ≤ 4294967295) (t0 : 0 ≤ t) (t1 : t ≤ 4294967295) (i0 : 0 ≤ i) (i1 : i ≤ 4294967295) (d0 : 0 ≤ d) (d1 : d < 32) (a0 : 0 ≤ a) (a1 : a < 32) (he : dec_Encode.f ⟨#[115, 101, 98]⟩ x1 x2 d a i = some (v, true)) :
    alu_Do.f ⟨#[115, 101, 98]⟩ x1 x2 d a i s t = some (sxOf t 8, true) := by
  unfold alu_Do.f
  rw [he, Option.bind_some]
  dsimp only
  rw [if_pos rfl, if_pos (show (⟨#[115, 101, 98]⟩ : ByteArray).toList ∈ aluNames from by rw [l_seb]; decide), aform_seb, Option.bind_some]
  rw [l_dt, if_neg (by decide), if_neg (by decide), if_neg (by decide), if_neg (by decide), if_neg (by decide), if_neg (by decide)]
  rw [l_seb, if_neg (fun h => absurd h.1 (by decide)), if_neg (fun h => absurd h.1 (by decide))]
  have hbo : alu_both.f ⟨#[115, 101, 98]⟩ x1 x2 d a i s t = some (sxOf t 8) := by
    unfold alu_both.f
    rw [l_seb, if_neg (by decide), if_neg (by decide), if_neg (by decide), if_neg (by decide), if_neg (by decide), if_neg (by decide), if_neg (by decide), if_neg (by decide), if_neg (by decide), if_neg (by decide)]
    unfold alu_fields.f
    rw [l_seb, if_neg (by decide), if_neg (by decide), if_neg (by decide), if_pos rfl]
    rw [show (8 : Int) = ((8 : Nat) : Int) from rfl, swap_Sext_spec t 8 t0 t1 (by decide) (by decide)]
    rfl
  rw [hbo]
  rfl
set_option maxHeartbeats 2000000 in
theorem aval_seh (x1 x2 d a i s t v : Int) (s0 : 0 ≤ s) (s1 : s ≤ 4294967295) (t0 : 0 ≤ t) (t1 : t ≤ 4294967295) (i0 : 0 ≤ i) (i1 : i ≤ 4294967295) (d0 : 0 ≤ d) (d1 : d < 32) (a0 : 0 ≤ a) (a1 : a < 32) (he : dec_Encode.f ⟨#[115, 101, 104]⟩ x1 x2 d a i = some (v, true)) :
    alu_Do.f ⟨#[115, 101, 104]⟩ x1 x2 d a i s t = some (sxOf t 16, true) := by
  unfold alu_Do.f
  rw [he, Option.bind_some]
  dsimp only
  rw [if_pos rfl, if_pos (show (⟨#[115, 101, 104]⟩ : ByteArray).toList ∈ aluNames from by rw [l_seh]; decide), aform_seh, Option.bind_some]
  rw [l_dt, if_neg (by decide), if_neg (by decide), if_neg (by decide), if_neg (by decide), if_neg (by decide), if_neg (by decide)]
  rw [l_seh, if_neg (fun h => absurd h.1 (by decide)), if_neg (fun h => absurd h.1 (by decide))]
  have hbo : alu_both.f ⟨#[115, 101, 104]⟩ x1 x2 d a i s t = some (sxOf t 16) := by
    unfold alu_both.f
    rw [l_seh, if_neg (by decide), if_neg (by decide), if_neg (by decide), if_neg (by decide), if_neg (by decide), if_neg (by decide), if_neg (by decide), if_neg (by decide), if_neg (by decide), if_neg (by decide)]
    unfold alu_fields.f
    rw [l_seh, if_neg (by decide), if_neg (by decide), if_neg (by decide), if_neg (by decide), if_pos rfl]
    rw [show (16 : Int) = ((16 : Nat) : Int) from rfl, swap_Sext_spec t 16 t0 t1 (by decide) (by decide)]
    rfl
  rw [hbo]
  rfl
end Go.Proofs.YtnddjndgfaefaaaDoor.F
end
