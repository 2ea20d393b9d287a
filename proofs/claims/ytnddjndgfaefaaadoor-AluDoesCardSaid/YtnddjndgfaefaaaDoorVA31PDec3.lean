import Derived.Below
import Derived.Deep.Draws
import Derived.Deep.AppendLies
import Derived.Maps.AppendAt
import Derived.OwnWalk
import Derived.Laws.BytesArg
import Derived.Laws.MakeOwn
import Derived.Laws.OwnMore
import Derived.Deep.OwnRows
import Derived.Tactics
import Derived.Lib.ConvBytes
import Derived.Laws.Slices
import Derived.WalkKit
import Derived.KernelRfl
import Derived.RowKit3
import Derived.Deep.LoopGhost
import Derived.Deep.QuietTactic
import Derived.BigQuiet
import Derived.WideLaws
import Derived.Deep.DeepCutAuto
import Derived.Deep.CutBlock
import Derived.Deep.RegionHeld3
import Derived.Laws.Rows
import Derived.Lib.AppendStr
import Derived.ArgAppend
import Derived.Laws.IdiomCopy
import Derived.RowKit
import Derived.OrdersHeld
import Derived.Laws.BitsLemmas
import Derived.Laws.StructEq
import Derived.Shelf.Small.Bits
import Derived.Shelf.LaysM
import Derived.Shelf.Strings.Fields
import Derived.Shelf.Strings.Replace
import Derived.Shelf.Strings.SplitShaped
import Derived.Lib.LaidTab
import Derived.Shelf.Abstract
import Derived.RangeFuncRecord
import Derived.ProofKit
import Derived.Lib.Hide
import Derived.Maps.OwnOps
import Derived.OwnWalkIn
import Derived.WalkSmall
import Derived.Laws.ResultCell
import Derived.Shelf.RegionOpen
import Derived.Deep.RegionWith
import Derived.Test.YtnddjndgfaefaaaDoorVZF0
import Derived.Test.YtnddjndgfaefaaaDoorVA3HDecTake
import Derived.Test.YtnddjndgfaefaaaDoorVA10HDecForms
import Derived.Test.YtnddjndgfaefaaaDoorVA22HDecRef
import Derived.Test.YtnddjndgfaefaaaDoorVA28
import Derived.Test.YtnddjndgfaefaaaDoorVA29PDec1
import Derived.Test.YtnddjndgfaefaaaDoorVA30PDec2
section
namespace Go.Proofs.YtnddjndgfaefaaaDoor.F
open Go.RowKit Go.Proofs.YtnddjndgfaefaaaDoorW.PrintWords Go.Proofs.YtnddjndgfaefaaaDoorW.PrintLast Go.Proofs.YtnddjndgfaefaaaDoorW.PrintMore
set_option linter.unusedVariables false
set_option linter.unusedSimpArgs false
theorem takeOne_i (w0 fr bt : Int) (x : Nums) : takeOne w0 fr bt x 105 = ⟨x.s, x.t, x.d, x.a, immOf fr bt w0⟩ := by
  unfold takeOne
  rw [if_pos rfl]
theorem takeOne_s (w0 fr bt : Int) (x : Nums) : takeOne w0 fr bt x 115 = ⟨fldOf w0 2097152, x.t, x.d, x.a, x.i⟩ := by
  unfold takeOne
  rw [if_neg (by decide), if_pos rfl]
theorem takeOne_t (w0 fr bt : Int) (x : Nums) : takeOne w0 fr bt x 116 = ⟨x.s, fldOf w0 65536, x.d, x.a, x.i⟩ := by
  unfold takeOne
  rw [if_neg (by decide), if_neg (by decide), if_pos rfl]
theorem takeOne_d (w0 fr bt : Int) (x : Nums) : takeOne w0 fr bt x 100 = ⟨x.s, x.t, fldOf w0 2048, x.a, x.i⟩ := by
  unfold takeOne
  rw [if_neg (by decide), if_neg (by decide), if_neg (by decide), if_pos rfl]
theorem takeOne_a (w0 fr bt : Int) (x : Nums) : takeOne w0 fr bt x 97 = ⟨x.s, x.t, x.d, fldOf w0 64, x.i⟩ := by
  unfold takeOne
  rw [if_neg (by decide), if_neg (by decide), if_neg (by decide), if_neg (by decide)]
theorem immOf_16 (w : Int) : immOf 0 16 w = bits .and .u32 w 65535 := by
  unfold immOf
  rw [if_neg (by decide), if_neg (by decide)]
theorem immOf_26 (w : Int) : immOf 0 26 w = bits .and .u32 w 67108863 := by
  unfold immOf
  rw [if_neg (by decide), if_pos rfl]
theorem immOf_20 (w : Int) : immOf 6 20 w = bits .and .u32 (w / 64) 1048575 := by
  unfold immOf
  rw [if_pos rfl]
theorem fld_s (o s t d a f : Nat) : fldOf (W o s t d a f : Int) 2097152 = ((s % 32 : Nat) : Int) := by
  have hl := W_lt o s t d a f
  have hm := mask32 (x := (W o s t d a f : Int) / 2097152) 5 (by decide) (by omega) (by omega)
  simp only [Int.reducePow, Int.reduceSub] at hm
  unfold fldOf
  rw [hm, w64_id (by omega) (by omega), W_val]
  omega
theorem fld_t (o s t d a f : Nat) : fldOf (W o s t d a f : Int) 65536 = ((t % 32 : Nat) : Int) := by
  have hl := W_lt o s t d a f
  have hm := mask32 (x := (W o s t d a f : Int) / 65536) 5 (by decide) (by omega) (by omega)
  simp only [Int.reducePow, Int.reduceSub] at hm
  unfold fldOf
  rw [hm, w64_id (by omega) (by omega), W_val]
  omega
theorem fld_d (o s t d a f : Nat) : fldOf (W o s t d a f : Int) 2048 = ((d % 32 : Nat) : Int) := by
  have hl := W_lt o s t d a f
  have hm := mask32 (x := (W o s t d a f : Int) / 2048) 5 (by decide) (by omega) (by omega)
  simp only [Int.reducePow, Int.reduceSub] at hm
  unfold fldOf
  rw [hm, w64_id (by omega) (by omega), W_val]
  omega
theorem fld_a (o s t d a f : Nat) : fldOf (W o s t d a f : Int) 64 = ((a % 32 : Nat) : Int) := by
  have hl := W_lt o s t d a f
  have hm := mask32 (x := (W o s t d a f : Int) / 64) 5 (by decide) (by omega) (by omega)
  simp only [Int.reducePow, Int.reduceSub] at hm
  unfold fldOf
  rw [hm, w64_id (by omega) (by omega), W_val]
  omega
theorem imm_16 (o s t d a f : Nat) : immOf 0 16 (W o s t d a f : Int) = ((d % 32 * 2048 + a % 32 * 64 + f % 64 : Nat) : Int) := by
  have hl := W_lt o s t d a f
  have hm := mask32 (x := (W o s t d a f : Int)) 16 (by decide) (by omega) (by omega)
  simp only [Int.reducePow, Int.reduceSub] at hm
  rw [immOf_16, hm, W_val]
  omega
theorem imm_26 (o s t d a f : Nat) : immOf 0 26 (W o s t d a f : Int) = ((s % 32 * 2097152 + t % 32 * 65536 + d % 32 * 2048 + a % 32 * 64 + f % 64 : Nat) : Int) := by
  have hl := W_lt o s t d a f
  have hm := mask32 (x := (W o s t d a f : Int)) 26 (by decide) (by omega) (by omega)
  simp only [Int.reducePow, Int.reduceSub] at hm
  rw [immOf_26, hm, W_val]
  omega
theorem imm_20 (o s t d a f : Nat) : immOf 6 20 (W o s t d a f : Int) = ((s % 32 * 32768 + t % 32 * 1024 + d % 32 * 32 + a % 32 : Nat) : Int) := by
  have hl := W_lt o s t d a f
  have hm := mask32 (x := (W o s t d a f : Int) / 64) 20 (by decide) (by omega) (by omega)
  simp only [Int.reducePow, Int.reduceSub] at hm
  rw [immOf_20, hm, W_val]
  omega
theorem fits_t (n : Int) : fitsOf n true = true ↔ 0 ≤ n ∧ n < 32 := ⟨fun h => ⟨(fits_bound h).1, (fits_bound h).2.1⟩, fun h => fits_of h.1 h.2 (fun e => by cases e)⟩
theorem fits_f (n : Int) : fitsOf n false = true ↔ n = 0 := ⟨fun h => (fits_bound h).2.2 rfl, fun h => by subst h; exact fits_of (by omega) (by omega) (fun _ => rfl)⟩
theorem W_self (w : Int) (h0 : 0 ≤ w) (h1 : w ≤ 4294967295) : w = (W (w.toNat / 67108864) (w.toNat / 2097152) (w.toNat / 65536) (w.toNat / 2048) (w.toNat / 64) w.toNat : Int) := by
  rw [W_val]
  omega
theorem take_dta (w : Int) : takeAll ([100, 116, 97], [100, 116, 97], 0, 16) w = ⟨0, fldOf w 65536, fldOf w 2048, fldOf w 64, 0⟩ := by
  unfold takeAll
  simp only [List.foldl_cons, List.foldl_nil, takeOne_i, takeOne_s, takeOne_t, takeOne_d, takeOne_a, nums0]
theorem take_dts (w : Int) : takeAll ([100, 116, 115], [100, 116, 115], 0, 16) w = ⟨fldOf w 2097152, fldOf w 65536, fldOf w 2048, 0, 0⟩ := by
  unfold takeAll
  simp only [List.foldl_cons, List.foldl_nil, takeOne_i, takeOne_s, takeOne_t, takeOne_d, takeOne_a, nums0]
theorem take_s (w : Int) : takeAll ([115], [115], 0, 16) w = ⟨fldOf w 2097152, 0, 0, 0, 0⟩ := by
  unfold takeAll
  simp only [List.foldl_cons, List.foldl_nil, takeOne_i, takeOne_s, takeOne_t, takeOne_d, takeOne_a, nums0]
theorem take_ds (w : Int) : takeAll ([100, 115], [100, 115], 0, 16) w = ⟨fldOf w 2097152, 0, fldOf w 2048, 0, 0⟩ := by
  unfold takeAll
  simp only [List.foldl_cons, List.foldl_nil, takeOne_i, takeOne_s, takeOne_t, takeOne_d, takeOne_a, nums0]
theorem take_dst (w : Int) : takeAll ([100, 115, 116], [100, 115, 116], 0, 16) w = ⟨fldOf w 2097152, fldOf w 65536, fldOf w 2048, 0, 0⟩ := by
  unfold takeAll
  simp only [List.foldl_cons, List.foldl_nil, takeOne_i, takeOne_s, takeOne_t, takeOne_d, takeOne_a, nums0]
theorem take_c (w : Int) : takeAll ([99], [105], 6, 20) w = ⟨0, 0, 0, 0, immOf 6 20 w⟩ := by
  unfold takeAll
  simp only [List.foldl_cons, List.foldl_nil, takeOne_i, takeOne_s, takeOne_t, takeOne_d, takeOne_a, nums0]
theorem take_d (w : Int) : takeAll ([100], [100], 0, 16) w = ⟨0, 0, fldOf w 2048, 0, 0⟩ := by
  unfold takeAll
  simp only [List.foldl_cons, List.foldl_nil, takeOne_i, takeOne_s, takeOne_t, takeOne_d, takeOne_a, nums0]
theorem take_st (w : Int) : takeAll ([115, 116], [115, 116], 0, 16) w = ⟨fldOf w 2097152, fldOf w 65536, 0, 0, 0⟩ := by
  unfold takeAll
  simp only [List.foldl_cons, List.foldl_nil, takeOne_i, takeOne_s, takeOne_t, takeOne_d, takeOne_a, nums0]
theorem take_dtr (w : Int) : takeAll ([100, 116, 114], [100, 116, 97], 0, 16) w = ⟨0, fldOf w 65536, fldOf w 2048, fldOf w 64, 0⟩ := by
  unfold takeAll
  simp only [List.foldl_cons, List.foldl_nil, takeOne_i, takeOne_s, takeOne_t, takeOne_d, takeOne_a, nums0]
theorem take_dtv (w : Int) : takeAll ([100, 116, 118], [100, 116, 115], 0, 16) w = ⟨fldOf w 2097152, fldOf w 65536, fldOf w 2048, 0, 0⟩ := by
  unfold takeAll
  simp only [List.foldl_cons, List.foldl_nil, takeOne_i, takeOne_s, takeOne_t, takeOne_d, takeOne_a, nums0]
theorem take_so (w : Int) : takeAll ([115, 111], [115, 105], 0, 16) w = ⟨fldOf w 2097152, 0, 0, 0, immOf 0 16 w⟩ := by
  unfold takeAll
  simp only [List.foldl_cons, List.foldl_nil, takeOne_i, takeOne_s, takeOne_t, takeOne_d, takeOne_a, nums0]
theorem take_j (w : Int) : takeAll ([106], [105], 0, 26) w = ⟨0, 0, 0, 0, immOf 0 26 w⟩ := by
  unfold takeAll
  simp only [List.foldl_cons, List.foldl_nil, takeOne_i, takeOne_s, takeOne_t, takeOne_d, takeOne_a, nums0]
theorem take_sto (w : Int) : takeAll ([115, 116, 111], [115, 116, 105], 0, 16) w = ⟨fldOf w 2097152, fldOf w 65536, 0, 0, immOf 0 16 w⟩ := by
  unfold takeAll
  simp only [List.foldl_cons, List.foldl_nil, takeOne_i, takeOne_s, takeOne_t, takeOne_d, takeOne_a, nums0]
theorem take_tsi (w : Int) : takeAll ([116, 115, 105], [116, 115, 105], 0, 16) w = ⟨fldOf w 2097152, fldOf w 65536, 0, 0, immOf 0 16 w⟩ := by
  unfold takeAll
  simp only [List.foldl_cons, List.foldl_nil, takeOne_i, takeOne_s, takeOne_t, takeOne_d, takeOne_a, nums0]
theorem take_ti (w : Int) : takeAll ([116, 105], [116, 105], 0, 16) w = ⟨0, fldOf w 65536, 0, 0, immOf 0 16 w⟩ := by
  unfold takeAll
  simp only [List.foldl_cons, List.foldl_nil, takeOne_i, takeOne_s, takeOne_t, takeOne_d, takeOne_a, nums0]
theorem take_dsd (w : Int) : takeAll ([100, 115, 100], [100, 115], 0, 16) w = ⟨fldOf w 2097152, 0, fldOf w 2048, 0, 0⟩ := by
  unfold takeAll
  simp only [List.foldl_cons, List.foldl_nil, takeOne_i, takeOne_s, takeOne_t, takeOne_d, takeOne_a, nums0]
theorem take_tsx (w : Int) : takeAll ([116, 115, 120], [116, 115, 100, 97], 0, 16) w = ⟨fldOf w 2097152, fldOf w 65536, fldOf w 2048, fldOf w 64, 0⟩ := by
  unfold takeAll
  simp only [List.foldl_cons, List.foldl_nil, takeOne_i, takeOne_s, takeOne_t, takeOne_d, takeOne_a, nums0]
theorem take_dt (w : Int) : takeAll ([100, 116], [100, 116], 0, 16) w = ⟨0, fldOf w 65536, fldOf w 2048, 0, 0⟩ := by
  unfold takeAll
  simp only [List.foldl_cons, List.foldl_nil, takeOne_i, takeOne_s, takeOne_t, takeOne_d, takeOne_a, nums0]
theorem take_td (w : Int) : takeAll ([116, 100], [116, 100], 0, 16) w = ⟨0, fldOf w 65536, fldOf w 2048, 0, 0⟩ := by
  unfold takeAll
  simp only [List.foldl_cons, List.foldl_nil, takeOne_i, takeOne_s, takeOne_t, takeOne_d, takeOne_a, nums0]
theorem take_tm (w : Int) : takeAll ([116, 109], [116, 115, 105], 0, 16) w = ⟨fldOf w 2097152, fldOf w 65536, 0, 0, immOf 0 16 w⟩ := by
  unfold takeAll
  simp only [List.foldl_cons, List.foldl_nil, takeOne_i, takeOne_s, takeOne_t, takeOne_d, takeOne_a, nums0]
theorem tl_dta (op sub : Nat) (ho : op < 64) (h1' : op ≠ 1) (hs : sub < 2048) (n : Nums) (h0 : 0 ≤ n.i) (h1 : n.i ≤ 4294967295) : takeAll ([100, 116, 97], [100, 116, 97], 0, 16) (layAll ([100, 116, 97], [100, 116, 97], 0, 16) (op : Int) (sub : Int) n) = n ↔ (fitsOf n.s false = true ∧ fitsOf n.t true = true ∧ fitsOf n.d true = true ∧ fitsOf n.a true = true ∧ decide (1 ≤ n.i) = false) := by
  obtain ⟨s, t, d, a, i⟩ := n
  dsimp only at h0 h1 ⊢
  rw [lay_dta op sub ho h1' hs ⟨s, t, d, a, i⟩, take_dta]
  simp only [fld_s, fld_t, fld_d, fld_a, imm_16, imm_20, imm_26, fits_t, fits_f, Nums.mk.injEq, decide_eq_false_iff_not, Nat.or_zero]
  try unfold dg
  constructor
  · rintro ⟨e1, e2, e3, e4, e5⟩
    refine ⟨?_, ?_, ?_, ?_, ?_⟩ <;> first | trivial | omega
  · rintro ⟨e1, e2, e3, e4, e5⟩
    refine ⟨?_, ?_, ?_, ?_, ?_⟩ <;> first | trivial | omega
theorem tr_dta (w : Int) (h0 : 0 ≤ w) (h1 : w ≤ 4294967295) : (fitsOf (takeAll ([100, 116, 97], [100, 116, 97], 0, 16) w).s false = true ∧ fitsOf (takeAll ([100, 116, 97], [100, 116, 97], 0, 16) w).t true = true ∧ fitsOf (takeAll ([100, 116, 97], [100, 116, 97], 0, 16) w).d true = true ∧ fitsOf (takeAll ([100, 116, 97], [100, 116, 97], 0, 16) w).a true = true ∧ decide (1 ≤ (takeAll ([100, 116, 97], [100, 116, 97], 0, 16) w).i) = false) ∧ 0 ≤ (takeAll ([100, 116, 97], [100, 116, 97], 0, 16) w).i ∧ (takeAll ([100, 116, 97], [100, 116, 97], 0, 16) w).i ≤ 4294967295 := by
  rw [take_dta, W_self w h0 h1]
  generalize w.toNat / 67108864 = o
  generalize w.toNat / 2097152 = s
  generalize w.toNat / 65536 = t
  generalize w.toNat / 2048 = d
  generalize w.toNat / 64 = a
  generalize w.toNat = v
  simp only [fld_s, fld_t, fld_d, fld_a, imm_16, imm_20, imm_26, fits_t, fits_f, decide_eq_false_iff_not]
  refine ⟨⟨?_, ?_, ?_, ?_, ?_⟩, ?_, ?_⟩ <;> first | trivial | omega
theorem tl_dts (op sub : Nat) (ho : op < 64) (h1' : op ≠ 1) (hs : sub < 2048) (n : Nums) (h0 : 0 ≤ n.i) (h1 : n.i ≤ 4294967295) : takeAll ([100, 116, 115], [100, 116, 115], 0, 16) (layAll ([100, 116, 115], [100, 116, 115], 0, 16) (op : Int) (sub : Int) n) = n ↔ (fitsOf n.s true = true ∧ fitsOf n.t true = true ∧ fitsOf n.d true = true ∧ fitsOf n.a false = true ∧ decide (1 ≤ n.i) = false) := by
  obtain ⟨s, t, d, a, i⟩ := n
  dsimp only at h0 h1 ⊢
  rw [lay_dts op sub ho h1' hs ⟨s, t, d, a, i⟩, take_dts]
  simp only [fld_s, fld_t, fld_d, fld_a, imm_16, imm_20, imm_26, fits_t, fits_f, Nums.mk.injEq, decide_eq_false_iff_not, Nat.or_zero]
  try unfold dg
  constructor
  · rintro ⟨e1, e2, e3, e4, e5⟩
    refine ⟨?_, ?_, ?_, ?_, ?_⟩ <;> first | trivial | omega
  · rintro ⟨e1, e2, e3, e4, e5⟩
    refine ⟨?_, ?_, ?_, ?_, ?_⟩ <;> first | trivial | omega
theorem tr_dts (w : Int) (h0 : 0 ≤ w) (h1 : w ≤ 4294967295) : (fitsOf (takeAll ([100, 116, 115], [100, 116, 115], 0, 16) w).s true = true ∧ fitsOf (takeAll ([100, 116, 115], [100, 116, 115], 0, 16) w).t true = true ∧ fitsOf (takeAll ([100, 116, 115], [100, 116, 115], 0, 16) w).d true = true ∧ fitsOf (takeAll ([100, 116, 115], [100, 116, 115], 0, 16) w).a false = true ∧ decide (1 ≤ (takeAll ([100, 116, 115], [100, 116, 115], 0, 16) w).i) = false) ∧ 0 ≤ (takeAll ([100, 116, 115], [100, 116, 115], 0, 16) w).i ∧ (takeAll ([100, 116, 115], [100, 116, 115], 0, 16) w).i ≤ 4294967295 := by
  rw [take_dts, W_self w h0 h1]
  generalize w.toNat / 67108864 = o
  generalize w.toNat / 2097152 = s
  generalize w.toNat / 65536 = t
  generalize w.toNat / 2048 = d
  generalize w.toNat / 64 = a
  generalize w.toNat = v
  simp only [fld_s, fld_t, fld_d, fld_a, imm_16, imm_20, imm_26, fits_t, fits_f, decide_eq_false_iff_not]
  refine ⟨⟨?_, ?_, ?_, ?_, ?_⟩, ?_, ?_⟩ <;> first | trivial | omega
theorem tl_s (op sub : Nat) (ho : op < 64) (h1' : op ≠ 1) (hs : sub < 2048) (n : Nums) (h0 : 0 ≤ n.i) (h1 : n.i ≤ 4294967295) : takeAll ([115], [115], 0, 16) (layAll ([115], [115], 0, 16) (op : Int) (sub : Int) n) = n ↔ (fitsOf n.s true = true ∧ fitsOf n.t false = true ∧ fitsOf n.d false = true ∧ fitsOf n.a false = true ∧ decide (1 ≤ n.i) = false) := by
  obtain ⟨s, t, d, a, i⟩ := n
  dsimp only at h0 h1 ⊢
  rw [lay_s op sub ho h1' hs ⟨s, t, d, a, i⟩, take_s]
  simp only [fld_s, fld_t, fld_d, fld_a, imm_16, imm_20, imm_26, fits_t, fits_f, Nums.mk.injEq, decide_eq_false_iff_not, Nat.or_zero]
  try unfold dg
  constructor
  · rintro ⟨e1, e2, e3, e4, e5⟩
    refine ⟨?_, ?_, ?_, ?_, ?_⟩ <;> first | trivial | omega
  · rintro ⟨e1, e2, e3, e4, e5⟩
    refine ⟨?_, ?_, ?_, ?_, ?_⟩ <;> first | trivial | omega
theorem tr_s (w : Int) (h0 : 0 ≤ w) (h1 : w ≤ 4294967295) : (fitsOf (takeAll ([115], [115], 0, 16) w).s true = true ∧ fitsOf (takeAll ([115], [115], 0, 16) w).t false = true ∧ fitsOf (takeAll ([115], [115], 0, 16) w).d false = true ∧ fitsOf (takeAll ([115], [115], 0, 16) w).a false = true ∧ decide (1 ≤ (takeAll ([115], [115], 0, 16) w).i) = false) ∧ 0 ≤ (takeAll ([115], [115], 0, 16) w).i ∧ (takeAll ([115], [115], 0, 16) w).i ≤ 4294967295 := by
  rw [take_s, W_self w h0 h1]
  generalize w.toNat / 67108864 = o
  generalize w.toNat / 2097152 = s
  generalize w.toNat / 65536 = t
  generalize w.toNat / 2048 = d
  generalize w.toNat / 64 = a
  generalize w.toNat = v
  simp only [fld_s, fld_t, fld_d, fld_a, imm_16, imm_20, imm_26, fits_t, fits_f, decide_eq_false_iff_not]
  refine ⟨⟨?_, ?_, ?_, ?_, ?_⟩, ?_, ?_⟩ <;> first | trivial | omega
theorem tl_ds (op sub : Nat) (ho : op < 64) (h1' : op ≠ 1) (hs : sub < 2048) (n : Nums) (h0 : 0 ≤ n.i) (h1 : n.i ≤ 4294967295) : takeAll ([100, 115], [100, 115], 0, 16) (layAll ([100, 115], [100, 115], 0, 16) (op : Int) (sub : Int) n) = n ↔ (fitsOf n.s true = true ∧ fitsOf n.t false = true ∧ fitsOf n.d true = true ∧ fitsOf n.a false = true ∧ decide (1 ≤ n.i) = false) := by
  obtain ⟨s, t, d, a, i⟩ := n
  dsimp only at h0 h1 ⊢
  rw [lay_ds op sub ho h1' hs ⟨s, t, d, a, i⟩, take_ds]
  simp only [fld_s, fld_t, fld_d, fld_a, imm_16, imm_20, imm_26, fits_t, fits_f, Nums.mk.injEq, decide_eq_false_iff_not, Nat.or_zero]
  try unfold dg
  constructor
  · rintro ⟨e1, e2, e3, e4, e5⟩
    refine ⟨?_, ?_, ?_, ?_, ?_⟩ <;> first | trivial | omega
  · rintro ⟨e1, e2, e3, e4, e5⟩
    refine ⟨?_, ?_, ?_, ?_, ?_⟩ <;> first | trivial | omega
theorem tr_ds (w : Int) (h0 : 0 ≤ w) (h1 : w ≤ 4294967295) : (fitsOf (takeAll ([100, 115], [100, 115], 0, 16) w).s true = true ∧ fitsOf (takeAll ([100, 115], [100, 115], 0, 16) w).t false = true ∧ fitsOf (takeAll ([100, 115], [100, 115], 0, 16) w).d true = true ∧ fitsOf (takeAll ([100, 115], [100, 115], 0, 16) w).a false = true ∧ decide (1 ≤ (takeAll ([100, 115], [100, 115], 0, 16) w).i) = false) ∧ 0 ≤ (takeAll ([100, 115], [100, 115], 0, 16) w).i ∧ (takeAll ([100, 115], [100, 115], 0, 16) w).i ≤ 4294967295 := by
  rw [take_ds, W_self w h0 h1]
  generalize w.toNat / 67108864 = o
  generalize w.toNat / 2097152 = s
  generalize w.toNat / 65536 = t
  generalize w.toNat / 2048 = d
  generalize w.toNat / 64 = a
  generalize w.toNat = v
  simp only [fld_s, fld_t, fld_d, fld_a, imm_16, imm_20, imm_26, fits_t, fits_f, decide_eq_false_iff_not]
  refine ⟨⟨?_, ?_, ?_, ?_, ?_⟩, ?_, ?_⟩ <;> first | trivial | omega
theorem tl_dst (op sub : Nat) (ho : op < 64) (h1' : op ≠ 1) (hs : sub < 2048) (n : Nums) (h0 : 0 ≤ n.i) (h1 : n.i ≤ 4294967295) : takeAll ([100, 115, 116], [100, 115, 116], 0, 16) (layAll ([100, 115, 116], [100, 115, 116], 0, 16) (op : Int) (sub : Int) n) = n ↔ (fitsOf n.s true = true ∧ fitsOf n.t true = true ∧ fitsOf n.d true = true ∧ fitsOf n.a false = true ∧ decide (1 ≤ n.i) = false) := by
  obtain ⟨s, t, d, a, i⟩ := n
  dsimp only at h0 h1 ⊢
  rw [lay_dst op sub ho h1' hs ⟨s, t, d, a, i⟩, take_dst]
  simp only [fld_s, fld_t, fld_d, fld_a, imm_16, imm_20, imm_26, fits_t, fits_f, Nums.mk.injEq, decide_eq_false_iff_not, Nat.or_zero]
  try unfold dg
  constructor
  · rintro ⟨e1, e2, e3, e4, e5⟩
    refine ⟨?_, ?_, ?_, ?_, ?_⟩ <;> first | trivial | omega
  · rintro ⟨e1, e2, e3, e4, e5⟩
    refine ⟨?_, ?_, ?_, ?_, ?_⟩ <;> first | trivial | omega
theorem tr_dst (w : Int) (h0 : 0 ≤ w) (h1 : w ≤ 4294967295) : (fitsOf (takeAll ([100, 115, 116], [100, 115, 116], 0, 16) w).s true = true ∧ fitsOf (takeAll ([100, 115, 116], [100, 115, 116], 0, 16) w).t true = true ∧ fitsOf (takeAll ([100, 115, 116], [100, 115, 116], 0, 16) w).d true = true ∧ fitsOf (takeAll ([100, 115, 116], [100, 115, 116], 0, 16) w).a false = true ∧ decide (1 ≤ (takeAll ([100, 115, 116], [100, 115, 116], 0, 16) w).i) = false) ∧ 0 ≤ (takeAll ([100, 115, 116], [100, 115, 116], 0, 16) w).i ∧ (takeAll ([100, 115, 116], [100, 115, 116], 0, 16) w).i ≤ 4294967295 := by
  rw [take_dst, W_self w h0 h1]
  generalize w.toNat / 67108864 = o
  generalize w.toNat / 2097152 = s
  generalize w.toNat / 65536 = t
  generalize w.toNat / 2048 = d
  generalize w.toNat / 64 = a
  generalize w.toNat = v
  simp only [fld_s, fld_t, fld_d, fld_a, imm_16, imm_20, imm_26, fits_t, fits_f, decide_eq_false_iff_not]
  refine ⟨⟨?_, ?_, ?_, ?_, ?_⟩, ?_, ?_⟩ <;> first | trivial | omega
theorem tl_c (op sub : Nat) (ho : op < 64) (h1' : op ≠ 1) (hs : sub < 2048) (n : Nums) (h0 : 0 ≤ n.i) (h1 : n.i ≤ 4294967295) : takeAll ([99], [105], 6, 20) (layAll ([99], [105], 6, 20) (op : Int) (sub : Int) n) = n ↔ (fitsOf n.s false = true ∧ fitsOf n.t false = true ∧ fitsOf n.d false = true ∧ fitsOf n.a false = true ∧ decide (1048576 ≤ n.i) = false) := by
  obtain ⟨s, t, d, a, i⟩ := n
  dsimp only at h0 h1 ⊢
  rw [lay_c op sub ho h1' hs ⟨s, t, d, a, i⟩ h0 h1, take_c]
  simp only [fld_s, fld_t, fld_d, fld_a, imm_16, imm_20, imm_26, fits_t, fits_f, Nums.mk.injEq, decide_eq_false_iff_not, Nat.or_zero]
  try unfold dg
  constructor
  · rintro ⟨e1, e2, e3, e4, e5⟩
    refine ⟨?_, ?_, ?_, ?_, ?_⟩ <;> first | trivial | omega
  · rintro ⟨e1, e2, e3, e4, e5⟩
    refine ⟨?_, ?_, ?_, ?_, ?_⟩ <;> first | trivial | omega
theorem tr_c (w : Int) (h0 : 0 ≤ w) (h1 : w ≤ 4294967295) : (fitsOf (takeAll ([99], [105], 6, 20) w).s false = true ∧ fitsOf (takeAll ([99], [105], 6, 20) w).t false = true ∧ fitsOf (takeAll ([99], [105], 6, 20) w).d false = true ∧ fitsOf (takeAll ([99], [105], 6, 20) w).a false = true ∧ decide (1048576 ≤ (takeAll ([99], [105], 6, 20) w).i) = false) ∧ 0 ≤ (takeAll ([99], [105], 6, 20) w).i ∧ (takeAll ([99], [105], 6, 20) w).i ≤ 4294967295 := by
  rw [take_c, W_self w h0 h1]
  generalize w.toNat / 67108864 = o
  generalize w.toNat / 2097152 = s
  generalize w.toNat / 65536 = t
  generalize w.toNat / 2048 = d
  generalize w.toNat / 64 = a
  generalize w.toNat = v
  simp only [fld_s, fld_t, fld_d, fld_a, imm_16, imm_20, imm_26, fits_t, fits_f, decide_eq_false_iff_not]
  refine ⟨⟨?_, ?_, ?_, ?_, ?_⟩, ?_, ?_⟩ <;> first | trivial | omega
theorem tl_d (op sub : Nat) (ho : op < 64) (h1' : op ≠ 1) (hs : sub < 2048) (n : Nums) (h0 : 0 ≤ n.i) (h1 : n.i ≤ 4294967295) : takeAll ([100], [100], 0, 16) (layAll ([100], [100], 0, 16) (op : Int) (sub : Int) n) = n ↔ (fitsOf n.s false = true ∧ fitsOf n.t false = true ∧ fitsOf n.d true = true ∧ fitsOf n.a false = true ∧ decide (1 ≤ n.i) = false) := by
  obtain ⟨s, t, d, a, i⟩ := n
  dsimp only at h0 h1 ⊢
  rw [lay_d op sub ho h1' hs ⟨s, t, d, a, i⟩, take_d]
  simp only [fld_s, fld_t, fld_d, fld_a, imm_16, imm_20, imm_26, fits_t, fits_f, Nums.mk.injEq, decide_eq_false_iff_not, Nat.or_zero]
  try unfold dg
  constructor
  · rintro ⟨e1, e2, e3, e4, e5⟩
    refine ⟨?_, ?_, ?_, ?_, ?_⟩ <;> first | trivial | omega
  · rintro ⟨e1, e2, e3, e4, e5⟩
    refine ⟨?_, ?_, ?_, ?_, ?_⟩ <;> first | trivial | omega
theorem tr_d (w : Int) (h0 : 0 ≤ w) (h1 : w ≤ 4294967295) : (fitsOf (takeAll ([100], [100], 0, 16) w).s false = true ∧ fitsOf (takeAll ([100], [100], 0, 16) w).t false = true ∧ fitsOf (takeAll ([100], [100], 0, 16) w).d true = true ∧ fitsOf (takeAll ([100], [100], 0, 16) w).a false = true ∧ decide (1 ≤ (takeAll ([100], [100], 0, 16) w).i) = false) ∧ 0 ≤ (takeAll ([100], [100], 0, 16) w).i ∧ (takeAll ([100], [100], 0, 16) w).i ≤ 4294967295 := by
  rw [take_d, W_self w h0 h1]
  generalize w.toNat / 67108864 = o
  generalize w.toNat / 2097152 = s
  generalize w.toNat / 65536 = t
  generalize w.toNat / 2048 = d
  generalize w.toNat / 64 = a
  generalize w.toNat = v
  simp only [fld_s, fld_t, fld_d, fld_a, imm_16, imm_20, imm_26, fits_t, fits_f, decide_eq_false_iff_not]
  refine ⟨⟨?_, ?_, ?_, ?_, ?_⟩, ?_, ?_⟩ <;> first | trivial | omega
theorem tl_st (op sub : Nat) (ho : op < 64) (h1' : op ≠ 1) (hs : sub < 2048) (n : Nums) (h0 : 0 ≤ n.i) (h1 : n.i ≤ 4294967295) : takeAll ([115, 116], [115, 116], 0, 16) (layAll ([115, 116], [115, 116], 0, 16) (op : Int) (sub : Int) n) = n ↔ (fitsOf n.s true = true ∧ fitsOf n.t true = true ∧ fitsOf n.d false = true ∧ fitsOf n.a false = true ∧ decide (1 ≤ n.i) = false) := by
  obtain ⟨s, t, d, a, i⟩ := n
  dsimp only at h0 h1 ⊢
  rw [lay_st op sub ho h1' hs ⟨s, t, d, a, i⟩, take_st]
  simp only [fld_s, fld_t, fld_d, fld_a, imm_16, imm_20, imm_26, fits_t, fits_f, Nums.mk.injEq, decide_eq_false_iff_not, Nat.or_zero]
  try unfold dg
  constructor
  · rintro ⟨e1, e2, e3, e4, e5⟩
    refine ⟨?_, ?_, ?_, ?_, ?_⟩ <;> first | trivial | omega
  · rintro ⟨e1, e2, e3, e4, e5⟩
    refine ⟨?_, ?_, ?_, ?_, ?_⟩ <;> first | trivial | omega
theorem tr_st (w : Int) (h0 : 0 ≤ w) (h1 : w ≤ 4294967295) : (fitsOf (takeAll ([115, 116], [115, 116], 0, 16) w).s true = true ∧ fitsOf (takeAll ([115, 116], [115, 116], 0, 16) w).t true = true ∧ fitsOf (takeAll ([115, 116], [115, 116], 0, 16) w).d false = true ∧ fitsOf (takeAll ([115, 116], [115, 116], 0, 16) w).a false = true ∧ decide (1 ≤ (takeAll ([115, 116], [115, 116], 0, 16) w).i) = false) ∧ 0 ≤ (takeAll ([115, 116], [115, 116], 0, 16) w).i ∧ (takeAll ([115, 116], [115, 116], 0, 16) w).i ≤ 4294967295 := by
  rw [take_st, W_self w h0 h1]
  generalize w.toNat / 67108864 = o
  generalize w.toNat / 2097152 = s
  generalize w.toNat / 65536 = t
  generalize w.toNat / 2048 = d
  generalize w.toNat / 64 = a
  generalize w.toNat = v
  simp only [fld_s, fld_t, fld_d, fld_a, imm_16, imm_20, imm_26, fits_t, fits_f, decide_eq_false_iff_not]
  refine ⟨⟨?_, ?_, ?_, ?_, ?_⟩, ?_, ?_⟩ <;> first | trivial | omega
theorem tl_dtr (op sub : Nat) (ho : op < 64) (h1' : op ≠ 1) (hs : sub < 2048) (n : Nums) (h0 : 0 ≤ n.i) (h1 : n.i ≤ 4294967295) : takeAll ([100, 116, 114], [100, 116, 97], 0, 16) (layAll ([100, 116, 114], [100, 116, 97], 0, 16) (op : Int) (sub : Int) n) = n ↔ (fitsOf n.s false = true ∧ fitsOf n.t true = true ∧ fitsOf n.d true = true ∧ fitsOf n.a true = true ∧ decide (1 ≤ n.i) = false) := by
  obtain ⟨s, t, d, a, i⟩ := n
  dsimp only at h0 h1 ⊢
  rw [lay_dtr op sub ho h1' hs ⟨s, t, d, a, i⟩, take_dtr]
  simp only [fld_s, fld_t, fld_d, fld_a, imm_16, imm_20, imm_26, fits_t, fits_f, Nums.mk.injEq, decide_eq_false_iff_not, Nat.or_zero]
  try unfold dg
  constructor
  · rintro ⟨e1, e2, e3, e4, e5⟩
    refine ⟨?_, ?_, ?_, ?_, ?_⟩ <;> first | trivial | omega
  · rintro ⟨e1, e2, e3, e4, e5⟩
    refine ⟨?_, ?_, ?_, ?_, ?_⟩ <;> first | trivial | omega
theorem tr_dtr (w : Int) (h0 : 0 ≤ w) (h1 : w ≤ 4294967295) : (fitsOf (takeAll ([100, 116, 114], [100, 116, 97], 0, 16) w).s false = true ∧ fitsOf (takeAll ([100, 116, 114], [100, 116, 97], 0, 16) w).t true = true ∧ fitsOf (takeAll ([100, 116, 114], [100, 116, 97], 0, 16) w).d true = true ∧ fitsOf (takeAll ([100, 116, 114], [100, 116, 97], 0, 16) w).a true = true ∧ decide (1 ≤ (takeAll ([100, 116, 114], [100, 116, 97], 0, 16) w).i) = false) ∧ 0 ≤ (takeAll ([100, 116, 114], [100, 116, 97], 0, 16) w).i ∧ (takeAll ([100, 116, 114], [100, 116, 97], 0, 16) w).i ≤ 4294967295 := by
  rw [take_dtr, W_self w h0 h1]
  generalize w.toNat / 67108864 = o
  generalize w.toNat / 2097152 = s
  generalize w.toNat / 65536 = t
  generalize w.toNat / 2048 = d
  generalize w.toNat / 64 = a
  generalize w.toNat = v
  simp only [fld_s, fld_t, fld_d, fld_a, imm_16, imm_20, imm_26, fits_t, fits_f, decide_eq_false_iff_not]
  refine ⟨⟨?_, ?_, ?_, ?_, ?_⟩, ?_, ?_⟩ <;> first | trivial | omega
theorem tl_dtv (op sub : Nat) (ho : op < 64) (h1' : op ≠ 1) (hs : sub < 2048) (n : Nums) (h0 : 0 ≤ n.i) (h1 : n.i ≤ 4294967295) : takeAll ([100, 116, 118], [100, 116, 115], 0, 16) (layAll ([100, 116, 118], [100, 116, 115], 0, 16) (op : Int) (sub : Int) n) = n ↔ (fitsOf n.s true = true ∧ fitsOf n.t true = true ∧ fitsOf n.d true = true ∧ fitsOf n.a false = true ∧ decide (1 ≤ n.i) = false) := by
  obtain ⟨s, t, d, a, i⟩ := n
  dsimp only at h0 h1 ⊢
  rw [lay_dtv op sub ho h1' hs ⟨s, t, d, a, i⟩, take_dtv]
  simp only [fld_s, fld_t, fld_d, fld_a, imm_16, imm_20, imm_26, fits_t, fits_f, Nums.mk.injEq, decide_eq_false_iff_not, Nat.or_zero]
  try unfold dg
  constructor
  · rintro ⟨e1, e2, e3, e4, e5⟩
    refine ⟨?_, ?_, ?_, ?_, ?_⟩ <;> first | trivial | omega
  · rintro ⟨e1, e2, e3, e4, e5⟩
    refine ⟨?_, ?_, ?_, ?_, ?_⟩ <;> first | trivial | omega
theorem tr_dtv (w : Int) (h0 : 0 ≤ w) (h1 : w ≤ 4294967295) : (fitsOf (takeAll ([100, 116, 118], [100, 116, 115], 0, 16) w).s true = true ∧ fitsOf (takeAll ([100, 116, 118], [100, 116, 115], 0, 16) w).t true = true ∧ fitsOf (takeAll ([100, 116, 118], [100, 116, 115], 0, 16) w).d true = true ∧ fitsOf (takeAll ([100, 116, 118], [100, 116, 115], 0, 16) w).a false = true ∧ decide (1 ≤ (takeAll ([100, 116, 118], [100, 116, 115], 0, 16) w).i) = false) ∧ 0 ≤ (takeAll ([100, 116, 118], [100, 116, 115], 0, 16) w).i ∧ (takeAll ([100, 116, 118], [100, 116, 115], 0, 16) w).i ≤ 4294967295 := by
  rw [take_dtv, W_self w h0 h1]
  generalize w.toNat / 67108864 = o
  generalize w.toNat / 2097152 = s
  generalize w.toNat / 65536 = t
  generalize w.toNat / 2048 = d
  generalize w.toNat / 64 = a
  generalize w.toNat = v
  simp only [fld_s, fld_t, fld_d, fld_a, imm_16, imm_20, imm_26, fits_t, fits_f, decide_eq_false_iff_not]
  refine ⟨⟨?_, ?_, ?_, ?_, ?_⟩, ?_, ?_⟩ <;> first | trivial | omega
theorem tl_so (op sub : Nat) (ho : op < 64) (h1' : op ≠ 1) (hs : sub = 0) (n : Nums) (h0 : 0 ≤ n.i) (h1 : n.i ≤ 4294967295) : takeAll ([115, 111], [115, 105], 0, 16) (layAll ([115, 111], [115, 105], 0, 16) (op : Int) (sub : Int) n) = n ↔ (fitsOf n.s true = true ∧ fitsOf n.t false = true ∧ fitsOf n.d false = true ∧ fitsOf n.a false = true ∧ decide (65536 ≤ n.i) = false) := by
  subst hs
  obtain ⟨s, t, d, a, i⟩ := n
  dsimp only at h0 h1 ⊢
  rw [lay_so op 0 ho h1' (by decide) ⟨s, t, d, a, i⟩ h0 h1, take_so]
  simp only [fld_s, fld_t, fld_d, fld_a, imm_16, imm_20, imm_26, fits_t, fits_f, Nums.mk.injEq, decide_eq_false_iff_not, Nat.or_zero]
  try unfold dg
  constructor
  · rintro ⟨e1, e2, e3, e4, e5⟩
    refine ⟨?_, ?_, ?_, ?_, ?_⟩ <;> first | trivial | omega
  · rintro ⟨e1, e2, e3, e4, e5⟩
    refine ⟨?_, ?_, ?_, ?_, ?_⟩ <;> first | trivial | omega
theorem tr_so (w : Int) (h0 : 0 ≤ w) (h1 : w ≤ 4294967295) : (fitsOf (takeAll ([115, 111], [115, 105], 0, 16) w).s true = true ∧ fitsOf (takeAll ([115, 111], [115, 105], 0, 16) w).t false = true ∧ fitsOf (takeAll ([115, 111], [115, 105], 0, 16) w).d false = true ∧ fitsOf (takeAll ([115, 111], [115, 105], 0, 16) w).a false = true ∧ decide (65536 ≤ (takeAll ([115, 111], [115, 105], 0, 16) w).i) = false) ∧ 0 ≤ (takeAll ([115, 111], [115, 105], 0, 16) w).i ∧ (takeAll ([115, 111], [115, 105], 0, 16) w).i ≤ 4294967295 := by
  rw [take_so, W_self w h0 h1]
  generalize w.toNat / 67108864 = o
  generalize w.toNat / 2097152 = s
  generalize w.toNat / 65536 = t
  generalize w.toNat / 2048 = d
  generalize w.toNat / 64 = a
  generalize w.toNat = v
  simp only [fld_s, fld_t, fld_d, fld_a, imm_16, imm_20, imm_26, fits_t, fits_f, decide_eq_false_iff_not]
  refine ⟨⟨?_, ?_, ?_, ?_, ?_⟩, ?_, ?_⟩ <;> first | trivial | omega
theorem tl_j (op sub : Nat) (ho : op < 64) (h1' : op ≠ 1) (hs : sub = 0) (n : Nums) (h0 : 0 ≤ n.i) (h1 : n.i ≤ 4294967295) : takeAll ([106], [105], 0, 26) (layAll ([106], [105], 0, 26) (op : Int) (sub : Int) n) = n ↔ (fitsOf n.s false = true ∧ fitsOf n.t false = true ∧ fitsOf n.d false = true ∧ fitsOf n.a false = true ∧ decide (67108864 ≤ n.i) = false) := by
  subst hs
  obtain ⟨s, t, d, a, i⟩ := n
  dsimp only at h0 h1 ⊢
  rw [lay_j op 0 ho h1' (by decide) ⟨s, t, d, a, i⟩ h0 h1, take_j]
  simp only [fld_s, fld_t, fld_d, fld_a, imm_16, imm_20, imm_26, fits_t, fits_f, Nums.mk.injEq, decide_eq_false_iff_not, Nat.or_zero]
  try unfold dg
  constructor
  · rintro ⟨e1, e2, e3, e4, e5⟩
    refine ⟨?_, ?_, ?_, ?_, ?_⟩ <;> first | trivial | omega
  · rintro ⟨e1, e2, e3, e4, e5⟩
    refine ⟨?_, ?_, ?_, ?_, ?_⟩ <;> first | trivial | omega
theorem tr_j (w : Int) (h0 : 0 ≤ w) (h1 : w ≤ 4294967295) : (fitsOf (takeAll ([106], [105], 0, 26) w).s false = true ∧ fitsOf (takeAll ([106], [105], 0, 26) w).t false = true ∧ fitsOf (takeAll ([106], [105], 0, 26) w).d false = true ∧ fitsOf (takeAll ([106], [105], 0, 26) w).a false = true ∧ decide (67108864 ≤ (takeAll ([106], [105], 0, 26) w).i) = false) ∧ 0 ≤ (takeAll ([106], [105], 0, 26) w).i ∧ (takeAll ([106], [105], 0, 26) w).i ≤ 4294967295 := by
  rw [take_j, W_self w h0 h1]
  generalize w.toNat / 67108864 = o
  generalize w.toNat / 2097152 = s
  generalize w.toNat / 65536 = t
  generalize w.toNat / 2048 = d
  generalize w.toNat / 64 = a
  generalize w.toNat = v
  simp only [fld_s, fld_t, fld_d, fld_a, imm_16, imm_20, imm_26, fits_t, fits_f, decide_eq_false_iff_not]
  refine ⟨⟨?_, ?_, ?_, ?_, ?_⟩, ?_, ?_⟩ <;> first | trivial | omega
theorem tl_sto (op sub : Nat) (ho : op < 64) (h1' : op ≠ 1) (hs : sub = 0) (n : Nums) (h0 : 0 ≤ n.i) (h1 : n.i ≤ 4294967295) : takeAll ([115, 116, 111], [115, 116, 105], 0, 16) (layAll ([115, 116, 111], [115, 116, 105], 0, 16) (op : Int) (sub : Int) n) = n ↔ (fitsOf n.s true = true ∧ fitsOf n.t true = true ∧ fitsOf n.d false = true ∧ fitsOf n.a false = true ∧ decide (65536 ≤ n.i) = false) := by
  subst hs
  obtain ⟨s, t, d, a, i⟩ := n
  dsimp only at h0 h1 ⊢
  rw [lay_sto op 0 ho h1' (by decide) ⟨s, t, d, a, i⟩ h0 h1, take_sto]
  simp only [fld_s, fld_t, fld_d, fld_a, imm_16, imm_20, imm_26, fits_t, fits_f, Nums.mk.injEq, decide_eq_false_iff_not, Nat.or_zero]
  try unfold dg
  constructor
  · rintro ⟨e1, e2, e3, e4, e5⟩
    refine ⟨?_, ?_, ?_, ?_, ?_⟩ <;> first | trivial | omega
  · rintro ⟨e1, e2, e3, e4, e5⟩
    refine ⟨?_, ?_, ?_, ?_, ?_⟩ <;> first | trivial | omega
theorem tr_sto (w : Int) (h0 : 0 ≤ w) (h1 : w ≤ 4294967295) : (fitsOf (takeAll ([115, 116, 111], [115, 116, 105], 0, 16) w).s true = true ∧ fitsOf (takeAll ([115, 116, 111], [115, 116, 105], 0, 16) w).t true = true ∧ fitsOf (takeAll ([115, 116, 111], [115, 116, 105], 0, 16) w).d false = true ∧ fitsOf (takeAll ([115, 116, 111], [115, 116, 105], 0, 16) w).a false = true ∧ decide (65536 ≤ (takeAll ([115, 116, 111], [115, 116, 105], 0, 16) w).i) = false) ∧ 0 ≤ (takeAll ([115, 116, 111], [115, 116, 105], 0, 16) w).i ∧ (takeAll ([115, 116, 111], [115, 116, 105], 0, 16) w).i ≤ 4294967295 := by
  rw [take_sto, W_self w h0 h1]
  generalize w.toNat / 67108864 = o
  generalize w.toNat / 2097152 = s
  generalize w.toNat / 65536 = t
  generalize w.toNat / 2048 = d
  generalize w.toNat / 64 = a
  generalize w.toNat = v
  simp only [fld_s, fld_t, fld_d, fld_a, imm_16, imm_20, imm_26, fits_t, fits_f, decide_eq_false_iff_not]
  refine ⟨⟨?_, ?_, ?_, ?_, ?_⟩, ?_, ?_⟩ <;> first | trivial | omega
theorem tl_tsi (op sub : Nat) (ho : op < 64) (h1' : op ≠ 1) (hs : sub = 0) (n : Nums) (h0 : 0 ≤ n.i) (h1 : n.i ≤ 4294967295) : takeAll ([116, 115, 105], [116, 115, 105], 0, 16) (layAll ([116, 115, 105], [116, 115, 105], 0, 16) (op : Int) (sub : Int) n) = n ↔ (fitsOf n.s true = true ∧ fitsOf n.t true = true ∧ fitsOf n.d false = true ∧ fitsOf n.a false = true ∧ decide (65536 ≤ n.i) = false) := by
  subst hs
  obtain ⟨s, t, d, a, i⟩ := n
  dsimp only at h0 h1 ⊢
  rw [lay_tsi op 0 ho h1' (by decide) ⟨s, t, d, a, i⟩ h0 h1, take_tsi]
  simp only [fld_s, fld_t, fld_d, fld_a, imm_16, imm_20, imm_26, fits_t, fits_f, Nums.mk.injEq, decide_eq_false_iff_not, Nat.or_zero]
  try unfold dg
  constructor
  · rintro ⟨e1, e2, e3, e4, e5⟩
    refine ⟨?_, ?_, ?_, ?_, ?_⟩ <;> first | trivial | omega
  · rintro ⟨e1, e2, e3, e4, e5⟩
    refine ⟨?_, ?_, ?_, ?_, ?_⟩ <;> first | trivial | omega
theorem tr_tsi (w : Int) (h0 : 0 ≤ w) (h1 : w ≤ 4294967295) : (fitsOf (takeAll ([116, 115, 105], [116, 115, 105], 0, 16) w).s true = true ∧ fitsOf (takeAll ([116, 115, 105], [116, 115, 105], 0, 16) w).t true = true ∧ fitsOf (takeAll ([116, 115, 105], [116, 115, 105], 0, 16) w).d false = true ∧ fitsOf (takeAll ([116, 115, 105], [116, 115, 105], 0, 16) w).a false = true ∧ decide (65536 ≤ (takeAll ([116, 115, 105], [116, 115, 105], 0, 16) w).i) = false) ∧ 0 ≤ (takeAll ([116, 115, 105], [116, 115, 105], 0, 16) w).i ∧ (takeAll ([116, 115, 105], [116, 115, 105], 0, 16) w).i ≤ 4294967295 := by
  rw [take_tsi, W_self w h0 h1]
  generalize w.toNat / 67108864 = o
  generalize w.toNat / 2097152 = s
  generalize w.toNat / 65536 = t
  generalize w.toNat / 2048 = d
  generalize w.toNat / 64 = a
  generalize w.toNat = v
  simp only [fld_s, fld_t, fld_d, fld_a, imm_16, imm_20, imm_26, fits_t, fits_f, decide_eq_false_iff_not]
  refine ⟨⟨?_, ?_, ?_, ?_, ?_⟩, ?_, ?_⟩ <;> first | trivial | omega
theorem tl_ti (op sub : Nat) (ho : op < 64) (h1' : op ≠ 1) (hs : sub = 0) (n : Nums) (h0 : 0 ≤ n.i) (h1 : n.i ≤ 4294967295) : takeAll ([116, 105], [116, 105], 0, 16) (layAll ([116, 105], [116, 105], 0, 16) (op : Int) (sub : Int) n) = n ↔ (fitsOf n.s false = true ∧ fitsOf n.t true = true ∧ fitsOf n.d false = true ∧ fitsOf n.a false = true ∧ decide (65536 ≤ n.i) = false) := by
  subst hs
  obtain ⟨s, t, d, a, i⟩ := n
  dsimp only at h0 h1 ⊢
  rw [lay_ti op 0 ho h1' (by decide) ⟨s, t, d, a, i⟩ h0 h1, take_ti]
  simp only [fld_s, fld_t, fld_d, fld_a, imm_16, imm_20, imm_26, fits_t, fits_f, Nums.mk.injEq, decide_eq_false_iff_not, Nat.or_zero]
  try unfold dg
  constructor
  · rintro ⟨e1, e2, e3, e4, e5⟩
    refine ⟨?_, ?_, ?_, ?_, ?_⟩ <;> first | trivial | omega
  · rintro ⟨e1, e2, e3, e4, e5⟩
    refine ⟨?_, ?_, ?_, ?_, ?_⟩ <;> first | trivial | omega
theorem tr_ti (w : Int) (h0 : 0 ≤ w) (h1 : w ≤ 4294967295) : (fitsOf (takeAll ([116, 105], [116, 105], 0, 16) w).s false = true ∧ fitsOf (takeAll ([116, 105], [116, 105], 0, 16) w).t true = true ∧ fitsOf (takeAll ([116, 105], [116, 105], 0, 16) w).d false = true ∧ fitsOf (takeAll ([116, 105], [116, 105], 0, 16) w).a false = true ∧ decide (65536 ≤ (takeAll ([116, 105], [116, 105], 0, 16) w).i) = false) ∧ 0 ≤ (takeAll ([116, 105], [116, 105], 0, 16) w).i ∧ (takeAll ([116, 105], [116, 105], 0, 16) w).i ≤ 4294967295 := by
  rw [take_ti, W_self w h0 h1]
  generalize w.toNat / 67108864 = o
  generalize w.toNat / 2097152 = s
  generalize w.toNat / 65536 = t
  generalize w.toNat / 2048 = d
  generalize w.toNat / 64 = a
  generalize w.toNat = v
  simp only [fld_s, fld_t, fld_d, fld_a, imm_16, imm_20, imm_26, fits_t, fits_f, decide_eq_false_iff_not]
  refine ⟨⟨?_, ?_, ?_, ?_, ?_⟩, ?_, ?_⟩ <;> first | trivial | omega
theorem tl_dsd (op sub : Nat) (ho : op < 64) (h1' : op ≠ 1) (hs : sub < 2048) (n : Nums) (h0 : 0 ≤ n.i) (h1 : n.i ≤ 4294967295) : takeAll ([100, 115, 100], [100, 115], 0, 16) (layAll ([100, 115, 100], [100, 115], 0, 16) (op : Int) (sub : Int) n) = n ↔ (fitsOf n.s true = true ∧ fitsOf n.t false = true ∧ fitsOf n.d true = true ∧ fitsOf n.a false = true ∧ decide (1 ≤ n.i) = false) := by
  obtain ⟨s, t, d, a, i⟩ := n
  dsimp only at h0 h1 ⊢
  rw [lay_dsd op sub ho h1' hs ⟨s, t, d, a, i⟩, take_dsd]
  simp only [fld_s, fld_t, fld_d, fld_a, imm_16, imm_20, imm_26, fits_t, fits_f, Nums.mk.injEq, decide_eq_false_iff_not, Nat.or_zero]
  try unfold dg
  constructor
  · rintro ⟨e1, e2, e3, e4, e5⟩
    refine ⟨?_, ?_, ?_, ?_, ?_⟩ <;> first | trivial | omega
  · rintro ⟨e1, e2, e3, e4, e5⟩
    refine ⟨?_, ?_, ?_, ?_, ?_⟩ <;> first | trivial | omega
theorem tr_dsd (w : Int) (h0 : 0 ≤ w) (h1 : w ≤ 4294967295) : (fitsOf (takeAll ([100, 115, 100], [100, 115], 0, 16) w).s true = true ∧ fitsOf (takeAll ([100, 115, 100], [100, 115], 0, 16) w).t false = true ∧ fitsOf (takeAll ([100, 115, 100], [100, 115], 0, 16) w).d true = true ∧ fitsOf (takeAll ([100, 115, 100], [100, 115], 0, 16) w).a false = true ∧ decide (1 ≤ (takeAll ([100, 115, 100], [100, 115], 0, 16) w).i) = false) ∧ 0 ≤ (takeAll ([100, 115, 100], [100, 115], 0, 16) w).i ∧ (takeAll ([100, 115, 100], [100, 115], 0, 16) w).i ≤ 4294967295 := by
  rw [take_dsd, W_self w h0 h1]
  generalize w.toNat / 67108864 = o
  generalize w.toNat / 2097152 = s
  generalize w.toNat / 65536 = t
  generalize w.toNat / 2048 = d
  generalize w.toNat / 64 = a
  generalize w.toNat = v
  simp only [fld_s, fld_t, fld_d, fld_a, imm_16, imm_20, imm_26, fits_t, fits_f, decide_eq_false_iff_not]
  refine ⟨⟨?_, ?_, ?_, ?_, ?_⟩, ?_, ?_⟩ <;> first | trivial | omega
theorem tl_tsx (op sub : Nat) (ho : op < 64) (h1' : op ≠ 1) (hs : sub < 2048) (n : Nums) (h0 : 0 ≤ n.i) (h1 : n.i ≤ 4294967295) : takeAll ([116, 115, 120], [116, 115, 100, 97], 0, 16) (layAll ([116, 115, 120], [116, 115, 100, 97], 0, 16) (op : Int) (sub : Int) n) = n ↔ (fitsOf n.s true = true ∧ fitsOf n.t true = true ∧ fitsOf n.d true = true ∧ fitsOf n.a true = true ∧ decide (1 ≤ n.i) = false) := by
  obtain ⟨s, t, d, a, i⟩ := n
  dsimp only at h0 h1 ⊢
  rw [lay_tsx op sub ho h1' hs ⟨s, t, d, a, i⟩, take_tsx]
  simp only [fld_s, fld_t, fld_d, fld_a, imm_16, imm_20, imm_26, fits_t, fits_f, Nums.mk.injEq, decide_eq_false_iff_not, Nat.or_zero]
  try unfold dg
  constructor
  · rintro ⟨e1, e2, e3, e4, e5⟩
    refine ⟨?_, ?_, ?_, ?_, ?_⟩ <;> first | trivial | omega
  · rintro ⟨e1, e2, e3, e4, e5⟩
    refine ⟨?_, ?_, ?_, ?_, ?_⟩ <;> first | trivial | omega
theorem tr_tsx (w : Int) (h0 : 0 ≤ w) (h1 : w ≤ 4294967295) : (fitsOf (takeAll ([116, 115, 120], [116, 115, 100, 97], 0, 16) w).s true = true ∧ fitsOf (takeAll ([116, 115, 120], [116, 115, 100, 97], 0, 16) w).t true = true ∧ fitsOf (takeAll ([116, 115, 120], [116, 115, 100, 97], 0, 16) w).d true = true ∧ fitsOf (takeAll ([116, 115, 120], [116, 115, 100, 97], 0, 16) w).a true = true ∧ decide (1 ≤ (takeAll ([116, 115, 120], [116, 115, 100, 97], 0, 16) w).i) = false) ∧ 0 ≤ (takeAll ([116, 115, 120], [116, 115, 100, 97], 0, 16) w).i ∧ (takeAll ([116, 115, 120], [116, 115, 100, 97], 0, 16) w).i ≤ 4294967295 := by
  rw [take_tsx, W_self w h0 h1]
  generalize w.toNat / 67108864 = o
  generalize w.toNat / 2097152 = s
  generalize w.toNat / 65536 = t
  generalize w.toNat / 2048 = d
  generalize w.toNat / 64 = a
  generalize w.toNat = v
  simp only [fld_s, fld_t, fld_d, fld_a, imm_16, imm_20, imm_26, fits_t, fits_f, decide_eq_false_iff_not]
  refine ⟨⟨?_, ?_, ?_, ?_, ?_⟩, ?_, ?_⟩ <;> first | trivial | omega
theorem tl_dt (op sub : Nat) (ho : op < 64) (h1' : op ≠ 1) (hs : sub < 2048) (n : Nums) (h0 : 0 ≤ n.i) (h1 : n.i ≤ 4294967295) : takeAll ([100, 116], [100, 116], 0, 16) (layAll ([100, 116], [100, 116], 0, 16) (op : Int) (sub : Int) n) = n ↔ (fitsOf n.s false = true ∧ fitsOf n.t true = true ∧ fitsOf n.d true = true ∧ fitsOf n.a false = true ∧ decide (1 ≤ n.i) = false) := by
  obtain ⟨s, t, d, a, i⟩ := n
  dsimp only at h0 h1 ⊢
  rw [lay_dt op sub ho h1' hs ⟨s, t, d, a, i⟩, take_dt]
  simp only [fld_s, fld_t, fld_d, fld_a, imm_16, imm_20, imm_26, fits_t, fits_f, Nums.mk.injEq, decide_eq_false_iff_not, Nat.or_zero]
  try unfold dg
  constructor
  · rintro ⟨e1, e2, e3, e4, e5⟩
    refine ⟨?_, ?_, ?_, ?_, ?_⟩ <;> first | trivial | omega
  · rintro ⟨e1, e2, e3, e4, e5⟩
    refine ⟨?_, ?_, ?_, ?_, ?_⟩ <;> first | trivial | omega
theorem tr_dt (w : Int) (h0 : 0 ≤ w) (h1 : w ≤ 4294967295) : (fitsOf (takeAll ([100, 116], [100, 116], 0, 16) w).s false = true ∧ fitsOf (takeAll ([100, 116], [100, 116], 0, 16) w).t true = true ∧ fitsOf (takeAll ([100, 116], [100, 116], 0, 16) w).d true = true ∧ fitsOf (takeAll ([100, 116], [100, 116], 0, 16) w).a false = true ∧ decide (1 ≤ (takeAll ([100, 116], [100, 116], 0, 16) w).i) = false) ∧ 0 ≤ (takeAll ([100, 116], [100, 116], 0, 16) w).i ∧ (takeAll ([100, 116], [100, 116], 0, 16) w).i ≤ 4294967295 := by
  rw [take_dt, W_self w h0 h1]
  generalize w.toNat / 67108864 = o
  generalize w.toNat / 2097152 = s
  generalize w.toNat / 65536 = t
  generalize w.toNat / 2048 = d
  generalize w.toNat / 64 = a
  generalize w.toNat = v
  simp only [fld_s, fld_t, fld_d, fld_a, imm_16, imm_20, imm_26, fits_t, fits_f, decide_eq_false_iff_not]
  refine ⟨⟨?_, ?_, ?_, ?_, ?_⟩, ?_, ?_⟩ <;> first | trivial | omega
theorem tl_td (op sub : Nat) (ho : op < 64) (h1' : op ≠ 1) (hs : sub < 2048) (n : Nums) (h0 : 0 ≤ n.i) (h1 : n.i ≤ 4294967295) : takeAll ([116, 100], [116, 100], 0, 16) (layAll ([116, 100], [116, 100], 0, 16) (op : Int) (sub : Int) n) = n ↔ (fitsOf n.s false = true ∧ fitsOf n.t true = true ∧ fitsOf n.d true = true ∧ fitsOf n.a false = true ∧ decide (1 ≤ n.i) = false) := by
  obtain ⟨s, t, d, a, i⟩ := n
  dsimp only at h0 h1 ⊢
  rw [lay_td op sub ho h1' hs ⟨s, t, d, a, i⟩, take_td]
  simp only [fld_s, fld_t, fld_d, fld_a, imm_16, imm_20, imm_26, fits_t, fits_f, Nums.mk.injEq, decide_eq_false_iff_not, Nat.or_zero]
  try unfold dg
  constructor
  · rintro ⟨e1, e2, e3, e4, e5⟩
    refine ⟨?_, ?_, ?_, ?_, ?_⟩ <;> first | trivial | omega
  · rintro ⟨e1, e2, e3, e4, e5⟩
    refine ⟨?_, ?_, ?_, ?_, ?_⟩ <;> first | trivial | omega
theorem tr_td (w : Int) (h0 : 0 ≤ w) (h1 : w ≤ 4294967295) : (fitsOf (takeAll ([116, 100], [116, 100], 0, 16) w).s false = true ∧ fitsOf (takeAll ([116, 100], [116, 100], 0, 16) w).t true = true ∧ fitsOf (takeAll ([116, 100], [116, 100], 0, 16) w).d true = true ∧ fitsOf (takeAll ([116, 100], [116, 100], 0, 16) w).a false = true ∧ decide (1 ≤ (takeAll ([116, 100], [116, 100], 0, 16) w).i) = false) ∧ 0 ≤ (takeAll ([116, 100], [116, 100], 0, 16) w).i ∧ (takeAll ([116, 100], [116, 100], 0, 16) w).i ≤ 4294967295 := by
  rw [take_td, W_self w h0 h1]
  generalize w.toNat / 67108864 = o
  generalize w.toNat / 2097152 = s
  generalize w.toNat / 65536 = t
  generalize w.toNat / 2048 = d
  generalize w.toNat / 64 = a
  generalize w.toNat = v
  simp only [fld_s, fld_t, fld_d, fld_a, imm_16, imm_20, imm_26, fits_t, fits_f, decide_eq_false_iff_not]
  refine ⟨⟨?_, ?_, ?_, ?_, ?_⟩, ?_, ?_⟩ <;> first | trivial | omega
theorem tl_tm (op sub : Nat) (ho : op < 64) (h1' : op ≠ 1) (hs : sub = 0) (n : Nums) (h0 : 0 ≤ n.i) (h1 : n.i ≤ 4294967295) : takeAll ([116, 109], [116, 115, 105], 0, 16) (layAll ([116, 109], [116, 115, 105], 0, 16) (op : Int) (sub : Int) n) = n ↔ (fitsOf n.s true = true ∧ fitsOf n.t true = true ∧ fitsOf n.d false = true ∧ fitsOf n.a false = true ∧ decide (65536 ≤ n.i) = false) := by
  subst hs
  obtain ⟨s, t, d, a, i⟩ := n
  dsimp only at h0 h1 ⊢
  rw [lay_tm op 0 ho h1' (by decide) ⟨s, t, d, a, i⟩ h0 h1, take_tm]
  simp only [fld_s, fld_t, fld_d, fld_a, imm_16, imm_20, imm_26, fits_t, fits_f, Nums.mk.injEq, decide_eq_false_iff_not, Nat.or_zero]
  try unfold dg
  constructor
  · rintro ⟨e1, e2, e3, e4, e5⟩
    refine ⟨?_, ?_, ?_, ?_, ?_⟩ <;> first | trivial | omega
  · rintro ⟨e1, e2, e3, e4, e5⟩
    refine ⟨?_, ?_, ?_, ?_, ?_⟩ <;> first | trivial | omega
theorem tr_tm (w : Int) (h0 : 0 ≤ w) (h1 : w ≤ 4294967295) : (fitsOf (takeAll ([116, 109], [116, 115, 105], 0, 16) w).s true = true ∧ fitsOf (takeAll ([116, 109], [116, 115, 105], 0, 16) w).t true = true ∧ fitsOf (takeAll ([116, 109], [116, 115, 105], 0, 16) w).d false = true ∧ fitsOf (takeAll ([116, 109], [116, 115, 105], 0, 16) w).a false = true ∧ decide (65536 ≤ (takeAll ([116, 109], [116, 115, 105], 0, 16) w).i) = false) ∧ 0 ≤ (takeAll ([116, 109], [116, 115, 105], 0, 16) w).i ∧ (takeAll ([116, 109], [116, 115, 105], 0, 16) w).i ≤ 4294967295 := by
  rw [take_tm, W_self w h0 h1]
  generalize w.toNat / 67108864 = o
  generalize w.toNat / 2097152 = s
  generalize w.toNat / 65536 = t
  generalize w.toNat / 2048 = d
  generalize w.toNat / 64 = a
  generalize w.toNat = v
  simp only [fld_s, fld_t, fld_d, fld_a, imm_16, imm_20, imm_26, fits_t, fits_f, decide_eq_false_iff_not]
  refine ⟨⟨?_, ?_, ?_, ?_, ?_⟩, ?_, ?_⟩ <;> first | trivial | omega
theorem tl_so1 (sub : Nat) (hs : sub < 32) (n : Nums) (h0 : 0 ≤ n.i) (h1 : n.i ≤ 4294967295) : takeAll ([115, 111], [115, 105], 0, 16) (layAll ([115, 111], [115, 105], 0, 16) 1 (sub : Int) n) = n ↔ (fitsOf n.s true = true ∧ fitsOf n.t false = true ∧ fitsOf n.d false = true ∧ fitsOf n.a false = true ∧ decide (65536 ≤ n.i) = false) := by
  obtain ⟨s, t, d, a, i⟩ := n
  dsimp only at h0 h1 ⊢
  rw [lay_one sub hs ⟨s, t, d, a, i⟩ h0 h1, take_so]
  simp only [fld_s, fld_t, fld_d, fld_a, imm_16, imm_20, imm_26, fits_t, fits_f, Nums.mk.injEq, decide_eq_false_iff_not, Nat.or_zero]
  try unfold dg
  constructor
  · rintro ⟨e1, e2, e3, e4, e5⟩
    refine ⟨?_, ?_, ?_, ?_, ?_⟩ <;> first | trivial | omega
  · rintro ⟨e1, e2, e3, e4, e5⟩
    refine ⟨?_, ?_, ?_, ?_, ?_⟩ <;> first | trivial | omega
end Go.Proofs.YtnddjndgfaefaaaDoor.F
end
