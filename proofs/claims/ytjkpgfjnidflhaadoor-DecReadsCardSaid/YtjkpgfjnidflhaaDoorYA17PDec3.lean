import Derived.Below
import Derived.Deep.Draws
import Derived.Deep.AppendLies
import Derived.Maps.AppendAt
import Derived.OwnWalk
import Derived.Laws.BytesArg
import Derived.Laws.MakeOwn
import Derived.Laws.OwnMore
import Derived.Deep.OwnRows
import Derived.Tactics
import Derived.Lib.ConvBytes
import Derived.Laws.Slices
import Derived.WalkKit
import Derived.KernelRfl
import Derived.RowKit3
import Derived.Deep.LoopGhost
import Derived.Deep.QuietTactic
import Derived.BigQuiet
import Derived.WideLaws
import Derived.Deep.DeepCutAuto
import Derived.Deep.CutBlock
import Derived.Deep.RegionHeld3
import Derived.Laws.Rows
import Derived.Lib.AppendStr
import Derived.ArgAppend
import Derived.Laws.IdiomCopy
import Derived.RowKit
import Derived.OrdersHeld
import Derived.Laws.BitsLemmas
import Derived.Laws.StructEq
import Derived.ProofKit
import Derived.OwnWalkIn
import Derived.WalkSmall
import Derived.Laws.ResultCell
import Derived.RangeFuncRecord
import Derived.Lib.Hide
import Derived.Deep.RegionWith
import Derived.Maps.OwnOps
import Derived.Shelf.LaysM
import Derived.Shelf.Strings.Replace
import Derived.Lib.LaidTab
import Derived.Shelf.Abstract
import Derived.Shelf.RegionOpen
import Derived.Test.YtjkpgfjnidflhaaDoorZF0
import Derived.Test.YtjkpgfjnidflhaaDoorYA1HDecRef
import Derived.Test.YtjkpgfjnidflhaaDoorYA5HDecTake
import Derived.Test.YtjkpgfjnidflhaaDoorYA8HDecForms
import Derived.Test.YtjkpgfjnidflhaaDoorYA16
section
namespace Go.Proofs.YtjkpgfjnidflhaaDoor.F
open Go.RowKit Go.Proofs.YtjkpgfjnidflhaaDoorW.PrintWords Go.Proofs.YtjkpgfjnidflhaaDoorW.PrintLast Go.Proofs.YtjkpgfjnidflhaaDoorW.PrintMore
set_option linter.unusedVariables false
set_option linter.unusedSimpArgs false
theorem takeOne_i (w0 fr bt : Int) (x : Nums) : takeOne w0 fr bt x 105 = ⟨x.s, x.t, x.d, x.a, immOf fr bt w0⟩ := by
  unfold takeOne
  rw [if_pos rfl]
theorem takeOne_s (w0 fr bt : Int) (x : Nums) : takeOne w0 fr bt x 115 = ⟨fldOf w0 2097152, x.t, x.d, x.a, x.i⟩ := by
  unfold takeOne
  rw [if_neg (by decide), if_pos rfl]
theorem takeOne_t (w0 fr bt : Int) (x : Nums) : takeOne w0 fr bt x 116 = ⟨x.s, fldOf w0 65536, x.d, x.a, x.i⟩ := by
  unfold takeOne
  rw [if_neg (by decide), if_neg (by decide), if_pos rfl]
theorem takeOne_d (w0 fr bt : Int) (x : Nums) : takeOne w0 fr bt x 100 = ⟨x.s, x.t, fldOf w0 2048, x.a, x.i⟩ := by
  unfold takeOne
  rw [if_neg (by decide), if_neg (by decide), if_neg (by decide), if_pos rfl]
theorem takeOne_a (w0 fr bt : Int) (x : Nums) : takeOne w0 fr bt x 97 = ⟨x.s, x.t, x.d, fldOf w0 64, x.i⟩ := by
  unfold takeOne
  rw [if_neg (by decide), if_neg (by decide), if_neg (by decide), if_neg (by decide)]
theorem immOf_16 (w : Int) : immOf 0 16 w = bits .and .u32 w 65535 := by
  unfold immOf
  rw [if_neg (by decide), if_neg (by decide)]
theorem immOf_26 (w : Int) : immOf 0 26 w = bits .and .u32 w 67108863 := by
  unfold immOf
  rw [if_neg (by decide), if_pos rfl]
theorem immOf_20 (w : Int) : immOf 6 20 w = bits .and .u32 (w / 64) 1048575 := by
  unfold immOf
  rw [if_pos rfl]
theorem fld_s (o s t d a f : Nat) : fldOf (W o s t d a f : Int) 2097152 = ((s % 32 : Nat) : Int) := by
  have hl := W_lt o s t d a f
  have hm := mask32 (x := (W o s t d a f : Int) / 2097152) 5 (by decide) (by omega) (by omega)
  simp only [Int.reducePow, Int.reduceSub] at hm
  unfold fldOf
  rw [hm, w64_id (by omega) (by omega), W_val]
  omega
theorem fld_t (o s t d a f : Nat) : fldOf (W o s t d a f : Int) 65536 = ((t % 32 : Nat) : Int) := by
  have hl := W_lt o s t d a f
  have hm := mask32 (x := (W o s t d a f : Int) / 65536) 5 (by decide) (by omega) (by omega)
  simp only [Int.reducePow, Int.reduceSub] at hm
  unfold fldOf
  rw [hm, w64_id (by omega) (by omega), W_val]
  omega
theorem fld_d (o s t d a f : Nat) : fldOf (W o s t d a f : Int) 2048 = ((d % 32 : Nat) : Int) := by
  have hl := W_lt o s t d a f
  have hm := mask32 (x := (W o s t d a f : Int) / 2048) 5 (by decide) (by omega) (by omega)
  simp only [Int.reducePow, Int.reduceSub] at hm
  unfold fldOf
  rw [hm, w64_id (by omega) (by omega), W_val]
  omega
theorem fld_a (o s t d a f : Nat) : fldOf (W o s t d a f : Int) 64 = ((a % 32 : Nat) : Int) := by
  have hl := W_lt o s t d a f
  have hm := mask32 (x := (W o s t d a f : Int) / 64) 5 (by decide) (by omega) (by omega)
  simp only [Int.reducePow, Int.reduceSub] at hm
  unfold fldOf
  rw [hm, w64_id (by omega) (by omega), W_val]
  omega
theorem imm_16 (o s t d a f : Nat) : immOf 0 16 (W o s t d a f : Int) = ((d % 32 * 2048 + a % 32 * 64 + f % 64 : Nat) : Int) := by
  have hl := W_lt o s t d a f
  have hm := mask32 (x := (W o s t d a f : Int)) 16 (by decide) (by omega) (by omega)
  simp only [Int.reducePow, Int.reduceSub] at hm
  rw [immOf_16, hm, W_val]
  omega
theorem imm_26 (o s t d a f : Nat) : immOf 0 26 (W o s t d a f : Int) = ((s % 32 * 2097152 + t % 32 * 65536 + d % 32 * 2048 + a % 32 * 64 + f % 64 : Nat) : Int) := by
  have hl := W_lt o s t d a f
  have hm := mask32 (x := (W o s t d a f : Int)) 26 (by decide) (by omega) (by omega)
  simp only [Int.reducePow, Int.reduceSub] at hm
  rw [immOf_26, hm, W_val]
  omega
theorem imm_20 (o s t d a f : Nat) : immOf 6 20 (W o s t d a f : Int) = ((s % 32 * 32768 + t % 32 * 1024 + d % 32 * 32 + a % 32 : Nat) : Int) := by
  have hl := W_lt o s t d a f
  have hm := mask32 (x := (W o s t d a f : Int) / 64) 20 (by decide) (by omega) (by omega)
  simp only [Int.reducePow, Int.reduceSub] at hm
  rw [immOf_20, hm, W_val]
  omega
theorem fits_t (n : Int) : fitsOf n true = true ↔ 0 ≤ n ∧ n < 32 := ⟨fun h => ⟨(fits_bound h).1, (fits_bound h).2.1⟩, fun h => fits_of h.1 h.2 (fun e => by cases e)⟩
theorem fits_f (n : Int) : fitsOf n false = true ↔ n = 0 := ⟨fun h => (fits_bound h).2.2 rfl, fun h => by subst h; exact fits_of (by omega) (by omega) (fun _ => rfl)⟩
theorem take_dta (w : Int) : takeAll ([100, 116, 97], [100, 116, 97], 0, 16) w = ⟨0, fldOf w 65536, fldOf w 2048, fldOf w 64, 0⟩ := by
  unfold takeAll
  simp only [List.foldl_cons, List.foldl_nil, takeOne_i, takeOne_s, takeOne_t, takeOne_d, takeOne_a, nums0]
theorem take_dts (w : Int) : takeAll ([100, 116, 115], [100, 116, 115], 0, 16) w = ⟨fldOf w 2097152, fldOf w 65536, fldOf w 2048, 0, 0⟩ := by
  unfold takeAll
  simp only [List.foldl_cons, List.foldl_nil, takeOne_i, takeOne_s, takeOne_t, takeOne_d, takeOne_a, nums0]
theorem take_s (w : Int) : takeAll ([115], [115], 0, 16) w = ⟨fldOf w 2097152, 0, 0, 0, 0⟩ := by
  unfold takeAll
  simp only [List.foldl_cons, List.foldl_nil, takeOne_i, takeOne_s, takeOne_t, takeOne_d, takeOne_a, nums0]
theorem take_ds (w : Int) : takeAll ([100, 115], [100, 115], 0, 16) w = ⟨fldOf w 2097152, 0, fldOf w 2048, 0, 0⟩ := by
  unfold takeAll
  simp only [List.foldl_cons, List.foldl_nil, takeOne_i, takeOne_s, takeOne_t, takeOne_d, takeOne_a, nums0]
theorem take_dst (w : Int) : takeAll ([100, 115, 116], [100, 115, 116], 0, 16) w = ⟨fldOf w 2097152, fldOf w 65536, fldOf w 2048, 0, 0⟩ := by
  unfold takeAll
  simp only [List.foldl_cons, List.foldl_nil, takeOne_i, takeOne_s, takeOne_t, takeOne_d, takeOne_a, nums0]
theorem take_c (w : Int) : takeAll ([99], [105], 6, 20) w = ⟨0, 0, 0, 0, immOf 6 20 w⟩ := by
  unfold takeAll
  simp only [List.foldl_cons, List.foldl_nil, takeOne_i, takeOne_s, takeOne_t, takeOne_d, takeOne_a, nums0]
theorem take_d (w : Int) : takeAll ([100], [100], 0, 16) w = ⟨0, 0, fldOf w 2048, 0, 0⟩ := by
  unfold takeAll
  simp only [List.foldl_cons, List.foldl_nil, takeOne_i, takeOne_s, takeOne_t, takeOne_d, takeOne_a, nums0]
theorem take_st (w : Int) : takeAll ([115, 116], [115, 116], 0, 16) w = ⟨fldOf w 2097152, fldOf w 65536, 0, 0, 0⟩ := by
  unfold takeAll
  simp only [List.foldl_cons, List.foldl_nil, takeOne_i, takeOne_s, takeOne_t, takeOne_d, takeOne_a, nums0]
theorem take_dtr (w : Int) : takeAll ([100, 116, 114], [100, 116, 97], 0, 16) w = ⟨0, fldOf w 65536, fldOf w 2048, fldOf w 64, 0⟩ := by
  unfold takeAll
  simp only [List.foldl_cons, List.foldl_nil, takeOne_i, takeOne_s, takeOne_t, takeOne_d, takeOne_a, nums0]
theorem take_dtv (w : Int) : takeAll ([100, 116, 118], [100, 116, 115], 0, 16) w = ⟨fldOf w 2097152, fldOf w 65536, fldOf w 2048, 0, 0⟩ := by
  unfold takeAll
  simp only [List.foldl_cons, List.foldl_nil, takeOne_i, takeOne_s, takeOne_t, takeOne_d, takeOne_a, nums0]
theorem take_so (w : Int) : takeAll ([115, 111], [115, 105], 0, 16) w = ⟨fldOf w 2097152, 0, 0, 0, immOf 0 16 w⟩ := by
  unfold takeAll
  simp only [List.foldl_cons, List.foldl_nil, takeOne_i, takeOne_s, takeOne_t, takeOne_d, takeOne_a, nums0]
theorem take_j (w : Int) : takeAll ([106], [105], 0, 26) w = ⟨0, 0, 0, 0, immOf 0 26 w⟩ := by
  unfold takeAll
  simp only [List.foldl_cons, List.foldl_nil, takeOne_i, takeOne_s, takeOne_t, takeOne_d, takeOne_a, nums0]
theorem take_sto (w : Int) : takeAll ([115, 116, 111], [115, 116, 105], 0, 16) w = ⟨fldOf w 2097152, fldOf w 65536, 0, 0, immOf 0 16 w⟩ := by
  unfold takeAll
  simp only [List.foldl_cons, List.foldl_nil, takeOne_i, takeOne_s, takeOne_t, takeOne_d, takeOne_a, nums0]
theorem take_tsi (w : Int) : takeAll ([116, 115, 105], [116, 115, 105], 0, 16) w = ⟨fldOf w 2097152, fldOf w 65536, 0, 0, immOf 0 16 w⟩ := by
  unfold takeAll
  simp only [List.foldl_cons, List.foldl_nil, takeOne_i, takeOne_s, takeOne_t, takeOne_d, takeOne_a, nums0]
theorem take_ti (w : Int) : takeAll ([116, 105], [116, 105], 0, 16) w = ⟨0, fldOf w 65536, 0, 0, immOf 0 16 w⟩ := by
  unfold takeAll
  simp only [List.foldl_cons, List.foldl_nil, takeOne_i, takeOne_s, takeOne_t, takeOne_d, takeOne_a, nums0]
theorem take_dsd (w : Int) : takeAll ([100, 115, 100], [100, 115], 0, 16) w = ⟨fldOf w 2097152, 0, fldOf w 2048, 0, 0⟩ := by
  unfold takeAll
  simp only [List.foldl_cons, List.foldl_nil, takeOne_i, takeOne_s, takeOne_t, takeOne_d, takeOne_a, nums0]
theorem take_tsx (w : Int) : takeAll ([116, 115, 120], [116, 115, 100, 97], 0, 16) w = ⟨fldOf w 2097152, fldOf w 65536, fldOf w 2048, fldOf w 64, 0⟩ := by
  unfold takeAll
  simp only [List.foldl_cons, List.foldl_nil, takeOne_i, takeOne_s, takeOne_t, takeOne_d, takeOne_a, nums0]
theorem take_dt (w : Int) : takeAll ([100, 116], [100, 116], 0, 16) w = ⟨0, fldOf w 65536, fldOf w 2048, 0, 0⟩ := by
  unfold takeAll
  simp only [List.foldl_cons, List.foldl_nil, takeOne_i, takeOne_s, takeOne_t, takeOne_d, takeOne_a, nums0]
theorem take_td (w : Int) : takeAll ([116, 100], [116, 100], 0, 16) w = ⟨0, fldOf w 65536, fldOf w 2048, 0, 0⟩ := by
  unfold takeAll
  simp only [List.foldl_cons, List.foldl_nil, takeOne_i, takeOne_s, takeOne_t, takeOne_d, takeOne_a, nums0]
theorem take_tm (w : Int) : takeAll ([116, 109], [116, 115, 105], 0, 16) w = ⟨fldOf w 2097152, fldOf w 65536, 0, 0, immOf 0 16 w⟩ := by
  unfold takeAll
  simp only [List.foldl_cons, List.foldl_nil, takeOne_i, takeOne_s, takeOne_t, takeOne_d, takeOne_a, nums0]
end Go.Proofs.YtjkpgfjnidflhaaDoor.F
end
