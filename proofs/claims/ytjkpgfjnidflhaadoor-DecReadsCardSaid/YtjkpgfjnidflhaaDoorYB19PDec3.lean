import Derived.Below
import Derived.Deep.Draws
import Derived.Deep.AppendLies
import Derived.Maps.AppendAt
import Derived.OwnWalk
import Derived.Laws.BytesArg
import Derived.Laws.MakeOwn
import Derived.Laws.OwnMore
import Derived.Deep.OwnRows
import Derived.Tactics
import Derived.Lib.ConvBytes
import Derived.Laws.Slices
import Derived.WalkKit
import Derived.KernelRfl
import Derived.RowKit3
import Derived.Deep.LoopGhost
import Derived.Deep.QuietTactic
import Derived.BigQuiet
import Derived.WideLaws
import Derived.Deep.DeepCutAuto
import Derived.Deep.CutBlock
import Derived.Deep.RegionHeld3
import Derived.Laws.Rows
import Derived.Lib.AppendStr
import Derived.ArgAppend
import Derived.Laws.IdiomCopy
import Derived.RowKit
import Derived.OrdersHeld
import Derived.Laws.BitsLemmas
import Derived.Laws.StructEq
import Derived.ProofKit
import Derived.OwnWalkIn
import Derived.WalkSmall
import Derived.Laws.ResultCell
import Derived.RangeFuncRecord
import Derived.Lib.Hide
import Derived.Deep.RegionWith
import Derived.Maps.OwnOps
import Derived.Shelf.LaysM
import Derived.Shelf.Strings.Replace
import Derived.Lib.LaidTab
import Derived.Shelf.Abstract
import Derived.Shelf.RegionOpen
import Derived.Test.YtjkpgfjnidflhaaDoorZF0
import Derived.Test.YtjkpgfjnidflhaaDoorYA1HDecRef
import Derived.Test.YtjkpgfjnidflhaaDoorYA8HDecForms
import Derived.Test.YtjkpgfjnidflhaaDoorYA16
import Derived.Test.YtjkpgfjnidflhaaDoorYA17PDec3
section
namespace Go.Proofs.YtjkpgfjnidflhaaDoor.F
open Go.RowKit Go.Proofs.YtjkpgfjnidflhaaDoorW.PrintWords Go.Proofs.YtjkpgfjnidflhaaDoorW.PrintLast Go.Proofs.YtjkpgfjnidflhaaDoorW.PrintMore
set_option linter.unusedVariables false
set_option linter.unusedSimpArgs false
theorem W_self (w : Int) (h0 : 0 ≤ w) (h1 : w ≤ 4294967295) : w = (W (w.toNat / 67108864) (w.toNat / 2097152) (w.toNat / 65536) (w.toNat / 2048) (w.toNat / 64) w.toNat : Int) := by
  rw [W_val]
  omega
theorem tr_dta (w : Int) (h0 : 0 ≤ w) (h1 : w ≤ 4294967295) : (fitsOf (takeAll ([100, 116, 97], [100, 116, 97], 0, 16) w).s false = true ∧ fitsOf (takeAll ([100, 116, 97], [100, 116, 97], 0, 16) w).t true = true ∧ fitsOf (takeAll ([100, 116, 97], [100, 116, 97], 0, 16) w).d true = true ∧ fitsOf (takeAll ([100, 116, 97], [100, 116, 97], 0, 16) w).a true = true ∧ decide (1 ≤ (takeAll ([100, 116, 97], [100, 116, 97], 0, 16) w).i) = false) ∧ 0 ≤ (takeAll ([100, 116, 97], [100, 116, 97], 0, 16) w).i ∧ (takeAll ([100, 116, 97], [100, 116, 97], 0, 16) w).i ≤ 4294967295 := by
  rw [take_dta, W_self w h0 h1]
  generalize w.toNat / 67108864 = o
  generalize w.toNat / 2097152 = s
  generalize w.toNat / 65536 = t
  generalize w.toNat / 2048 = d
  generalize w.toNat / 64 = a
  generalize w.toNat = v
  simp only [fld_s, fld_t, fld_d, fld_a, imm_16, imm_20, imm_26, fits_t, fits_f, decide_eq_false_iff_not]
  refine ⟨⟨?_, ?_, ?_, ?_, ?_⟩, ?_, ?_⟩ <;> first | trivial | omega
theorem tr_dts (w : Int) (h0 : 0 ≤ w) (h1 : w ≤ 4294967295) : (fitsOf (takeAll ([100, 116, 115], [100, 116, 115], 0, 16) w).s true = true ∧ fitsOf (takeAll ([100, 116, 115], [100, 116, 115], 0, 16) w).t true = true ∧ fitsOf (takeAll ([100, 116, 115], [100, 116, 115], 0, 16) w).d true = true ∧ fitsOf (takeAll ([100, 116, 115], [100, 116, 115], 0, 16) w).a false = true ∧ decide (1 ≤ (takeAll ([100, 116, 115], [100, 116, 115], 0, 16) w).i) = false) ∧ 0 ≤ (takeAll ([100, 116, 115], [100, 116, 115], 0, 16) w).i ∧ (takeAll ([100, 116, 115], [100, 116, 115], 0, 16) w).i ≤ 4294967295 := by
  rw [take_dts, W_self w h0 h1]
  generalize w.toNat / 67108864 = o
  generalize w.toNat / 2097152 = s
  generalize w.toNat / 65536 = t
  generalize w.toNat / 2048 = d
  generalize w.toNat / 64 = a
  generalize w.toNat = v
  simp only [fld_s, fld_t, fld_d, fld_a, imm_16, imm_20, imm_26, fits_t, fits_f, decide_eq_false_iff_not]
  refine ⟨⟨?_, ?_, ?_, ?_, ?_⟩, ?_, ?_⟩ <;> first | trivial | omega
theorem tr_s (w : Int) (h0 : 0 ≤ w) (h1 : w ≤ 4294967295) : (fitsOf (takeAll ([115], [115], 0, 16) w).s true = true ∧ fitsOf (takeAll ([115], [115], 0, 16) w).t false = true ∧ fitsOf (takeAll ([115], [115], 0, 16) w).d false = true ∧ fitsOf (takeAll ([115], [115], 0, 16) w).a false = true ∧ decide (1 ≤ (takeAll ([115], [115], 0, 16) w).i) = false) ∧ 0 ≤ (takeAll ([115], [115], 0, 16) w).i ∧ (takeAll ([115], [115], 0, 16) w).i ≤ 4294967295 := by
  rw [take_s, W_self w h0 h1]
  generalize w.toNat / 67108864 = o
  generalize w.toNat / 2097152 = s
  generalize w.toNat / 65536 = t
  generalize w.toNat / 2048 = d
  generalize w.toNat / 64 = a
  generalize w.toNat = v
  simp only [fld_s, fld_t, fld_d, fld_a, imm_16, imm_20, imm_26, fits_t, fits_f, decide_eq_false_iff_not]
  refine ⟨⟨?_, ?_, ?_, ?_, ?_⟩, ?_, ?_⟩ <;> first | trivial | omega
theorem tr_ds (w : Int) (h0 : 0 ≤ w) (h1 : w ≤ 4294967295) : (fitsOf (takeAll ([100, 115], [100, 115], 0, 16) w).s true = true ∧ fitsOf (takeAll ([100, 115], [100, 115], 0, 16) w).t false = true ∧ fitsOf (takeAll ([100, 115], [100, 115], 0, 16) w).d true = true ∧ fitsOf (takeAll ([100, 115], [100, 115], 0, 16) w).a false = true ∧ decide (1 ≤ (takeAll ([100, 115], [100, 115], 0, 16) w).i) = false) ∧ 0 ≤ (takeAll ([100, 115], [100, 115], 0, 16) w).i ∧ (takeAll ([100, 115], [100, 115], 0, 16) w).i ≤ 4294967295 := by
  rw [take_ds, W_self w h0 h1]
  generalize w.toNat / 67108864 = o
  generalize w.toNat / 2097152 = s
  generalize w.toNat / 65536 = t
  generalize w.toNat / 2048 = d
  generalize w.toNat / 64 = a
  generalize w.toNat = v
  simp only [fld_s, fld_t, fld_d, fld_a, imm_16, imm_20, imm_26, fits_t, fits_f, decide_eq_false_iff_not]
  refine ⟨⟨?_, ?_, ?_, ?_, ?_⟩, ?_, ?_⟩ <;> first | trivial | omega
theorem tr_dst (w : Int) (h0 : 0 ≤ w) (h1 : w ≤ 4294967295) : (fitsOf (takeAll ([100, 115, 116], [100, 115, 116], 0, 16) w).s true = true ∧ fitsOf (takeAll ([100, 115, 116], [100, 115, 116], 0, 16) w).t true = true ∧ fitsOf (takeAll ([100, 115, 116], [100, 115, 116], 0, 16) w).d true = true ∧ fitsOf (takeAll ([100, 115, 116], [100, 115, 116], 0, 16) w).a false = true ∧ decide (1 ≤ (takeAll ([100, 115, 116], [100, 115, 116], 0, 16) w).i) = false) ∧ 0 ≤ (takeAll ([100, 115, 116], [100, 115, 116], 0, 16) w).i ∧ (takeAll ([100, 115, 116], [100, 115, 116], 0, 16) w).i ≤ 4294967295 := by
  rw [take_dst, W_self w h0 h1]
  generalize w.toNat / 67108864 = o
  generalize w.toNat / 2097152 = s
  generalize w.toNat / 65536 = t
  generalize w.toNat / 2048 = d
  generalize w.toNat / 64 = a
  generalize w.toNat = v
  simp only [fld_s, fld_t, fld_d, fld_a, imm_16, imm_20, imm_26, fits_t, fits_f, decide_eq_false_iff_not]
  refine ⟨⟨?_, ?_, ?_, ?_, ?_⟩, ?_, ?_⟩ <;> first | trivial | omega
theorem tr_c (w : Int) (h0 : 0 ≤ w) (h1 : w ≤ 4294967295) : (fitsOf (takeAll ([99], [105], 6, 20) w).s false = true ∧ fitsOf (takeAll ([99], [105], 6, 20) w).t false = true ∧ fitsOf (takeAll ([99], [105], 6, 20) w).d false = true ∧ fitsOf (takeAll ([99], [105], 6, 20) w).a false = true ∧ decide (1048576 ≤ (takeAll ([99], [105], 6, 20) w).i) = false) ∧ 0 ≤ (takeAll ([99], [105], 6, 20) w).i ∧ (takeAll ([99], [105], 6, 20) w).i ≤ 4294967295 := by
  rw [take_c, W_self w h0 h1]
  generalize w.toNat / 67108864 = o
  generalize w.toNat / 2097152 = s
  generalize w.toNat / 65536 = t
  generalize w.toNat / 2048 = d
  generalize w.toNat / 64 = a
  generalize w.toNat = v
  simp only [fld_s, fld_t, fld_d, fld_a, imm_16, imm_20, imm_26, fits_t, fits_f, decide_eq_false_iff_not]
  refine ⟨⟨?_, ?_, ?_, ?_, ?_⟩, ?_, ?_⟩ <;> first | trivial | omega
theorem tr_d (w : Int) (h0 : 0 ≤ w) (h1 : w ≤ 4294967295) : (fitsOf (takeAll ([100], [100], 0, 16) w).s false = true ∧ fitsOf (takeAll ([100], [100], 0, 16) w).t false = true ∧ fitsOf (takeAll ([100], [100], 0, 16) w).d true = true ∧ fitsOf (takeAll ([100], [100], 0, 16) w).a false = true ∧ decide (1 ≤ (takeAll ([100], [100], 0, 16) w).i) = false) ∧ 0 ≤ (takeAll ([100], [100], 0, 16) w).i ∧ (takeAll ([100], [100], 0, 16) w).i ≤ 4294967295 := by
  rw [take_d, W_self w h0 h1]
  generalize w.toNat / 67108864 = o
  generalize w.toNat / 2097152 = s
  generalize w.toNat / 65536 = t
  generalize w.toNat / 2048 = d
  generalize w.toNat / 64 = a
  generalize w.toNat = v
  simp only [fld_s, fld_t, fld_d, fld_a, imm_16, imm_20, imm_26, fits_t, fits_f, decide_eq_false_iff_not]
  refine ⟨⟨?_, ?_, ?_, ?_, ?_⟩, ?_, ?_⟩ <;> first | trivial | omega
theorem tr_st (w : Int) (h0 : 0 ≤ w) (h1 : w ≤ 4294967295) : (fitsOf (takeAll ([115, 116], [115, 116], 0, 16) w).s true = true ∧ fitsOf (takeAll ([115, 116], [115, 116], 0, 16) w).t true = true ∧ fitsOf (takeAll ([115, 116], [115, 116], 0, 16) w).d false = true ∧ fitsOf (takeAll ([115, 116], [115, 116], 0, 16) w).a false = true ∧ decide (1 ≤ (takeAll ([115, 116], [115, 116], 0, 16) w).i) = false) ∧ 0 ≤ (takeAll ([115, 116], [115, 116], 0, 16) w).i ∧ (takeAll ([115, 116], [115, 116], 0, 16) w).i ≤ 4294967295 := by
  rw [take_st, W_self w h0 h1]
  generalize w.toNat / 67108864 = o
  generalize w.toNat / 2097152 = s
  generalize w.toNat / 65536 = t
  generalize w.toNat / 2048 = d
  generalize w.toNat / 64 = a
  generalize w.toNat = v
  simp only [fld_s, fld_t, fld_d, fld_a, imm_16, imm_20, imm_26, fits_t, fits_f, decide_eq_false_iff_not]
  refine ⟨⟨?_, ?_, ?_, ?_, ?_⟩, ?_, ?_⟩ <;> first | trivial | omega
theorem tr_dtr (w : Int) (h0 : 0 ≤ w) (h1 : w ≤ 4294967295) : (fitsOf (takeAll ([100, 116, 114], [100, 116, 97], 0, 16) w).s false = true ∧ fitsOf (takeAll ([100, 116, 114], [100, 116, 97], 0, 16) w).t true = true ∧ fitsOf (takeAll ([100, 116, 114], [100, 116, 97], 0, 16) w).d true = true ∧ fitsOf (takeAll ([100, 116, 114], [100, 116, 97], 0, 16) w).a true = true ∧ decide (1 ≤ (takeAll ([100, 116, 114], [100, 116, 97], 0, 16) w).i) = false) ∧ 0 ≤ (takeAll ([100, 116, 114], [100, 116, 97], 0, 16) w).i ∧ (takeAll ([100, 116, 114], [100, 116, 97], 0, 16) w).i ≤ 4294967295 := by
  rw [take_dtr, W_self w h0 h1]
  generalize w.toNat / 67108864 = o
  generalize w.toNat / 2097152 = s
  generalize w.toNat / 65536 = t
  generalize w.toNat / 2048 = d
  generalize w.toNat / 64 = a
  generalize w.toNat = v
  simp only [fld_s, fld_t, fld_d, fld_a, imm_16, imm_20, imm_26, fits_t, fits_f, decide_eq_false_iff_not]
  refine ⟨⟨?_, ?_, ?_, ?_, ?_⟩, ?_, ?_⟩ <;> first | trivial | omega
theorem tr_dtv (w : Int) (h0 : 0 ≤ w) (h1 : w ≤ 4294967295) : (fitsOf (takeAll ([100, 116, 118], [100, 116, 115], 0, 16) w).s true = true ∧ fitsOf (takeAll ([100, 116, 118], [100, 116, 115], 0, 16) w).t true = true ∧ fitsOf (takeAll ([100, 116, 118], [100, 116, 115], 0, 16) w).d true = true ∧ fitsOf (takeAll ([100, 116, 118], [100, 116, 115], 0, 16) w).a false = true ∧ decide (1 ≤ (takeAll ([100, 116, 118], [100, 116, 115], 0, 16) w).i) = false) ∧ 0 ≤ (takeAll ([100, 116, 118], [100, 116, 115], 0, 16) w).i ∧ (takeAll ([100, 116, 118], [100, 116, 115], 0, 16) w).i ≤ 4294967295 := by
  rw [take_dtv, W_self w h0 h1]
  generalize w.toNat / 67108864 = o
  generalize w.toNat / 2097152 = s
  generalize w.toNat / 65536 = t
  generalize w.toNat / 2048 = d
  generalize w.toNat / 64 = a
  generalize w.toNat = v
  simp only [fld_s, fld_t, fld_d, fld_a, imm_16, imm_20, imm_26, fits_t, fits_f, decide_eq_false_iff_not]
  refine ⟨⟨?_, ?_, ?_, ?_, ?_⟩, ?_, ?_⟩ <;> first | trivial | omega
theorem tr_so (w : Int) (h0 : 0 ≤ w) (h1 : w ≤ 4294967295) : (fitsOf (takeAll ([115, 111], [115, 105], 0, 16) w).s true = true ∧ fitsOf (takeAll ([115, 111], [115, 105], 0, 16) w).t false = true ∧ fitsOf (takeAll ([115, 111], [115, 105], 0, 16) w).d false = true ∧ fitsOf (takeAll ([115, 111], [115, 105], 0, 16) w).a false = true ∧ decide (65536 ≤ (takeAll ([115, 111], [115, 105], 0, 16) w).i) = false) ∧ 0 ≤ (takeAll ([115, 111], [115, 105], 0, 16) w).i ∧ (takeAll ([115, 111], [115, 105], 0, 16) w).i ≤ 4294967295 := by
  rw [take_so, W_self w h0 h1]
  generalize w.toNat / 67108864 = o
  generalize w.toNat / 2097152 = s
  generalize w.toNat / 65536 = t
  generalize w.toNat / 2048 = d
  generalize w.toNat / 64 = a
  generalize w.toNat = v
  simp only [fld_s, fld_t, fld_d, fld_a, imm_16, imm_20, imm_26, fits_t, fits_f, decide_eq_false_iff_not]
  refine ⟨⟨?_, ?_, ?_, ?_, ?_⟩, ?_, ?_⟩ <;> first | trivial | omega
theorem tr_j (w : Int) (h0 : 0 ≤ w) (h1 : w ≤ 4294967295) : (fitsOf (takeAll ([106], [105], 0, 26) w).s false = true ∧ fitsOf (takeAll ([106], [105], 0, 26) w).t false = true ∧ fitsOf (takeAll ([106], [105], 0, 26) w).d false = true ∧ fitsOf (takeAll ([106], [105], 0, 26) w).a false = true ∧ decide (67108864 ≤ (takeAll ([106], [105], 0, 26) w).i) = false) ∧ 0 ≤ (takeAll ([106], [105], 0, 26) w).i ∧ (takeAll ([106], [105], 0, 26) w).i ≤ 4294967295 := by
  rw [take_j, W_self w h0 h1]
  generalize w.toNat / 67108864 = o
  generalize w.toNat / 2097152 = s
  generalize w.toNat / 65536 = t
  generalize w.toNat / 2048 = d
  generalize w.toNat / 64 = a
  generalize w.toNat = v
  simp only [fld_s, fld_t, fld_d, fld_a, imm_16, imm_20, imm_26, fits_t, fits_f, decide_eq_false_iff_not]
  refine ⟨⟨?_, ?_, ?_, ?_, ?_⟩, ?_, ?_⟩ <;> first | trivial | omega
theorem tr_sto (w : Int) (h0 : 0 ≤ w) (h1 : w ≤ 4294967295) : (fitsOf (takeAll ([115, 116, 111], [115, 116, 105], 0, 16) w).s true = true ∧ fitsOf (takeAll ([115, 116, 111], [115, 116, 105], 0, 16) w).t true = true ∧ fitsOf (takeAll ([115, 116, 111], [115, 116, 105], 0, 16) w).d false = true ∧ fitsOf (takeAll ([115, 116, 111], [115, 116, 105], 0, 16) w).a false = true ∧ decide (65536 ≤ (takeAll ([115, 116, 111], [115, 116, 105], 0, 16) w).i) = false) ∧ 0 ≤ (takeAll ([115, 116, 111], [115, 116, 105], 0, 16) w).i ∧ (takeAll ([115, 116, 111], [115, 116, 105], 0, 16) w).i ≤ 4294967295 := by
  rw [take_sto, W_self w h0 h1]
  generalize w.toNat / 67108864 = o
  generalize w.toNat / 2097152 = s
  generalize w.toNat / 65536 = t
  generalize w.toNat / 2048 = d
  generalize w.toNat / 64 = a
  generalize w.toNat = v
  simp only [fld_s, fld_t, fld_d, fld_a, imm_16, imm_20, imm_26, fits_t, fits_f, decide_eq_false_iff_not]
  refine ⟨⟨?_, ?_, ?_, ?_, ?_⟩, ?_, ?_⟩ <;> first | trivial | omega
theorem tr_tsi (w : Int) (h0 : 0 ≤ w) (h1 : w ≤ 4294967295) : (fitsOf (takeAll ([116, 115, 105], [116, 115, 105], 0, 16) w).s true = true ∧ fitsOf (takeAll ([116, 115, 105], [116, 115, 105], 0, 16) w).t true = true ∧ fitsOf (takeAll ([116, 115, 105], [116, 115, 105], 0, 16) w).d false = true ∧ fitsOf (takeAll ([116, 115, 105], [116, 115, 105], 0, 16) w).a false = true ∧ decide (65536 ≤ (takeAll ([116, 115, 105], [116, 115, 105], 0, 16) w).i) = false) ∧ 0 ≤ (takeAll ([116, 115, 105], [116, 115, 105], 0, 16) w).i ∧ (takeAll ([116, 115, 105], [116, 115, 105], 0, 16) w).i ≤ 4294967295 := by
  rw [take_tsi, W_self w h0 h1]
  generalize w.toNat / 67108864 = o
  generalize w.toNat / 2097152 = s
  generalize w.toNat / 65536 = t
  generalize w.toNat / 2048 = d
  generalize w.toNat / 64 = a
  generalize w.toNat = v
  simp only [fld_s, fld_t, fld_d, fld_a, imm_16, imm_20, imm_26, fits_t, fits_f, decide_eq_false_iff_not]
  refine ⟨⟨?_, ?_, ?_, ?_, ?_⟩, ?_, ?_⟩ <;> first | trivial | omega
theorem tr_ti (w : Int) (h0 : 0 ≤ w) (h1 : w ≤ 4294967295) : (fitsOf (takeAll ([116, 105], [116, 105], 0, 16) w).s false = true ∧ fitsOf (takeAll ([116, 105], [116, 105], 0, 16) w).t true = true ∧ fitsOf (takeAll ([116, 105], [116, 105], 0, 16) w).d false = true ∧ fitsOf (takeAll ([116, 105], [116, 105], 0, 16) w).a false = true ∧ decide (65536 ≤ (takeAll ([116, 105], [116, 105], 0, 16) w).i) = false) ∧ 0 ≤ (takeAll ([116, 105], [116, 105], 0, 16) w).i ∧ (takeAll ([116, 105], [116, 105], 0, 16) w).i ≤ 4294967295 := by
  rw [take_ti, W_self w h0 h1]
  generalize w.toNat / 67108864 = o
  generalize w.toNat / 2097152 = s
  generalize w.toNat / 65536 = t
  generalize w.toNat / 2048 = d
  generalize w.toNat / 64 = a
  generalize w.toNat = v
  simp only [fld_s, fld_t, fld_d, fld_a, imm_16, imm_20, imm_26, fits_t, fits_f, decide_eq_false_iff_not]
  refine ⟨⟨?_, ?_, ?_, ?_, ?_⟩, ?_, ?_⟩ <;> first | trivial | omega
theorem tr_dsd (w : Int) (h0 : 0 ≤ w) (h1 : w ≤ 4294967295) : (fitsOf (takeAll ([100, 115, 100], [100, 115], 0, 16) w).s true = true ∧ fitsOf (takeAll ([100, 115, 100], [100, 115], 0, 16) w).t false = true ∧ fitsOf (takeAll ([100, 115, 100], [100, 115], 0, 16) w).d true = true ∧ fitsOf (takeAll ([100, 115, 100], [100, 115], 0, 16) w).a false = true ∧ decide (1 ≤ (takeAll ([100, 115, 100], [100, 115], 0, 16) w).i) = false) ∧ 0 ≤ (takeAll ([100, 115, 100], [100, 115], 0, 16) w).i ∧ (takeAll ([100, 115, 100], [100, 115], 0, 16) w).i ≤ 4294967295 := by
  rw [take_dsd, W_self w h0 h1]
  generalize w.toNat / 67108864 = o
  generalize w.toNat / 2097152 = s
  generalize w.toNat / 65536 = t
  generalize w.toNat / 2048 = d
  generalize w.toNat / 64 = a
  generalize w.toNat = v
  simp only [fld_s, fld_t, fld_d, fld_a, imm_16, imm_20, imm_26, fits_t, fits_f, decide_eq_false_iff_not]
  refine ⟨⟨?_, ?_, ?_, ?_, ?_⟩, ?_, ?_⟩ <;> first | trivial | omega
theorem tr_tsx (w : Int) (h0 : 0 ≤ w) (h1 : w ≤ 4294967295) : (fitsOf (takeAll ([116, 115, 120], [116, 115, 100, 97], 0, 16) w).s true = true ∧ fitsOf (takeAll ([116, 115, 120], [116, 115, 100, 97], 0, 16) w).t true = true ∧ fitsOf (takeAll ([116, 115, 120], [116, 115, 100, 97], 0, 16) w).d true = true ∧ fitsOf (takeAll ([116, 115, 120], [116, 115, 100, 97], 0, 16) w).a true = true ∧ decide (1 ≤ (takeAll ([116, 115, 120], [116, 115, 100, 97], 0, 16) w).i) = false) ∧ 0 ≤ (takeAll ([116, 115, 120], [116, 115, 100, 97], 0, 16) w).i ∧ (takeAll ([116, 115, 120], [116, 115, 100, 97], 0, 16) w).i ≤ 4294967295 := by
  rw [take_tsx, W_self w h0 h1]
  generalize w.toNat / 67108864 = o
  generalize w.toNat / 2097152 = s
  generalize w.toNat / 65536 = t
  generalize w.toNat / 2048 = d
  generalize w.toNat / 64 = a
  generalize w.toNat = v
  simp only [fld_s, fld_t, fld_d, fld_a, imm_16, imm_20, imm_26, fits_t, fits_f, decide_eq_false_iff_not]
  refine ⟨⟨?_, ?_, ?_, ?_, ?_⟩, ?_, ?_⟩ <;> first | trivial | omega
theorem tr_dt (w : Int) (h0 : 0 ≤ w) (h1 : w ≤ 4294967295) : (fitsOf (takeAll ([100, 116], [100, 116], 0, 16) w).s false = true ∧ fitsOf (takeAll ([100, 116], [100, 116], 0, 16) w).t true = true ∧ fitsOf (takeAll ([100, 116], [100, 116], 0, 16) w).d true = true ∧ fitsOf (takeAll ([100, 116], [100, 116], 0, 16) w).a false = true ∧ decide (1 ≤ (takeAll ([100, 116], [100, 116], 0, 16) w).i) = false) ∧ 0 ≤ (takeAll ([100, 116], [100, 116], 0, 16) w).i ∧ (takeAll ([100, 116], [100, 116], 0, 16) w).i ≤ 4294967295 := by
  rw [take_dt, W_self w h0 h1]
  generalize w.toNat / 67108864 = o
  generalize w.toNat / 2097152 = s
  generalize w.toNat / 65536 = t
  generalize w.toNat / 2048 = d
  generalize w.toNat / 64 = a
  generalize w.toNat = v
  simp only [fld_s, fld_t, fld_d, fld_a, imm_16, imm_20, imm_26, fits_t, fits_f, decide_eq_false_iff_not]
  refine ⟨⟨?_, ?_, ?_, ?_, ?_⟩, ?_, ?_⟩ <;> first | trivial | omega
theorem tr_td (w : Int) (h0 : 0 ≤ w) (h1 : w ≤ 4294967295) : (fitsOf (takeAll ([116, 100], [116, 100], 0, 16) w).s false = true ∧ fitsOf (takeAll ([116, 100], [116, 100], 0, 16) w).t true = true ∧ fitsOf (takeAll ([116, 100], [116, 100], 0, 16) w).d true = true ∧ fitsOf (takeAll ([116, 100], [116, 100], 0, 16) w).a false = true ∧ decide (1 ≤ (takeAll ([116, 100], [116, 100], 0, 16) w).i) = false) ∧ 0 ≤ (takeAll ([116, 100], [116, 100], 0, 16) w).i ∧ (takeAll ([116, 100], [116, 100], 0, 16) w).i ≤ 4294967295 := by
  rw [take_td, W_self w h0 h1]
  generalize w.toNat / 67108864 = o
  generalize w.toNat / 2097152 = s
  generalize w.toNat / 65536 = t
  generalize w.toNat / 2048 = d
  generalize w.toNat / 64 = a
  generalize w.toNat = v
  simp only [fld_s, fld_t, fld_d, fld_a, imm_16, imm_20, imm_26, fits_t, fits_f, decide_eq_false_iff_not]
  refine ⟨⟨?_, ?_, ?_, ?_, ?_⟩, ?_, ?_⟩ <;> first | trivial | omega
theorem tr_tm (w : Int) (h0 : 0 ≤ w) (h1 : w ≤ 4294967295) : (fitsOf (takeAll ([116, 109], [116, 115, 105], 0, 16) w).s true = true ∧ fitsOf (takeAll ([116, 109], [116, 115, 105], 0, 16) w).t true = true ∧ fitsOf (takeAll ([116, 109], [116, 115, 105], 0, 16) w).d false = true ∧ fitsOf (takeAll ([116, 109], [116, 115, 105], 0, 16) w).a false = true ∧ decide (65536 ≤ (takeAll ([116, 109], [116, 115, 105], 0, 16) w).i) = false) ∧ 0 ≤ (takeAll ([116, 109], [116, 115, 105], 0, 16) w).i ∧ (takeAll ([116, 109], [116, 115, 105], 0, 16) w).i ≤ 4294967295 := by
  rw [take_tm, W_self w h0 h1]
  generalize w.toNat / 67108864 = o
  generalize w.toNat / 2097152 = s
  generalize w.toNat / 65536 = t
  generalize w.toNat / 2048 = d
  generalize w.toNat / 64 = a
  generalize w.toNat = v
  simp only [fld_s, fld_t, fld_d, fld_a, imm_16, imm_20, imm_26, fits_t, fits_f, decide_eq_false_iff_not]
  refine ⟨⟨?_, ?_, ?_, ?_, ?_⟩, ?_, ?_⟩ <;> first | trivial | omega
end Go.Proofs.YtjkpgfjnidflhaaDoor.F
end
