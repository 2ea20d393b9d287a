import Derived.Below
import Derived.Deep.Draws
import Derived.Deep.AppendLies
import Derived.Maps.AppendAt
import Derived.OwnWalk
import Derived.Laws.BytesArg
import Derived.Laws.MakeOwn
import Derived.Laws.OwnMore
import Derived.Deep.OwnRows
import Derived.Tactics
import Derived.Lib.ConvBytes
import Derived.Laws.Slices
import Derived.WalkKit
import Derived.KernelRfl
import Derived.RowKit3
import Derived.Deep.LoopGhost
import Derived.Deep.QuietTactic
import Derived.BigQuiet
import Derived.WideLaws
import Derived.Deep.DeepCutAuto
import Derived.Deep.CutBlock
import Derived.Deep.RegionHeld3
import Derived.Laws.Rows
import Derived.Lib.AppendStr
import Derived.ArgAppend
import Derived.Laws.IdiomCopy
import Derived.RowKit
import Derived.OrdersHeld
import Derived.Laws.BitsLemmas
import Derived.Laws.StructEq
import Derived.ProofKit
import Derived.OwnWalkIn
import Derived.WalkSmall
import Derived.Laws.ResultCell
import Derived.RangeFuncRecord
import Derived.Lib.Hide
import Derived.Deep.RegionWith
import Derived.Maps.OwnOps
import Derived.Shelf.LaysM
import Derived.Shelf.Strings.Replace
import Derived.Lib.LaidTab
import Derived.Shelf.Abstract
import Derived.Shelf.RegionOpen
import Derived.Test.YtjkpgfjnidflhaaDoorZF0
import Derived.Test.YtjkpgfjnidflhaaDoorYA1HDecRef
import Derived.Test.YtjkpgfjnidflhaaDoorYA5HDecTake
import Derived.Test.YtjkpgfjnidflhaaDoorYA8HDecForms
import Derived.Test.YtjkpgfjnidflhaaDoorYA17PDec3
import Derived.Test.YtjkpgfjnidflhaaDoorYC21PDec1
section
namespace Go.Proofs.YtjkpgfjnidflhaaDoor.F
open Go.RowKit Go.Proofs.YtjkpgfjnidflhaaDoorW.PrintWords Go.Proofs.YtjkpgfjnidflhaaDoorW.PrintLast Go.Proofs.YtjkpgfjnidflhaaDoorW.PrintMore
set_option linter.unusedVariables false
set_option linter.unusedSimpArgs false
theorem tl_dta (op sub : Nat) (ho : op < 64) (h1' : op ≠ 1) (hs : sub < 2048) (n : Nums) (h0 : 0 ≤ n.i) (h1 : n.i ≤ 4294967295) : takeAll ([100, 116, 97], [100, 116, 97], 0, 16) (layAll ([100, 116, 97], [100, 116, 97], 0, 16) (op : Int) (sub : Int) n) = n ↔ (fitsOf n.s false = true ∧ fitsOf n.t true = true ∧ fitsOf n.d true = true ∧ fitsOf n.a true = true ∧ decide (1 ≤ n.i) = false) := by
  obtain ⟨s, t, d, a, i⟩ := n
  dsimp only at h0 h1 ⊢
  rw [lay_dta op sub ho h1' hs ⟨s, t, d, a, i⟩, take_dta]
  simp only [fld_s, fld_t, fld_d, fld_a, imm_16, imm_20, imm_26, fits_t, fits_f, Nums.mk.injEq, decide_eq_false_iff_not, Nat.or_zero]
  try unfold dg
  constructor
  · rintro ⟨e1, e2, e3, e4, e5⟩
    refine ⟨?_, ?_, ?_, ?_, ?_⟩ <;> first | trivial | omega
  · rintro ⟨e1, e2, e3, e4, e5⟩
    refine ⟨?_, ?_, ?_, ?_, ?_⟩ <;> first | trivial | omega
theorem tl_dts (op sub : Nat) (ho : op < 64) (h1' : op ≠ 1) (hs : sub < 2048) (n : Nums) (h0 : 0 ≤ n.i) (h1 : n.i ≤ 4294967295) : takeAll ([100, 116, 115], [100, 116, 115], 0, 16) (layAll ([100, 116, 115], [100, 116, 115], 0, 16) (op : Int) (sub : Int) n) = n ↔ (fitsOf n.s true = true ∧ fitsOf n.t true = true ∧ fitsOf n.d true = true ∧ fitsOf n.a false = true ∧ decide (1 ≤ n.i) = false) := by
  obtain ⟨s, t, d, a, i⟩ := n
  dsimp only at h0 h1 ⊢
  rw [lay_dts op sub ho h1' hs ⟨s, t, d, a, i⟩, take_dts]
  simp only [fld_s, fld_t, fld_d, fld_a, imm_16, imm_20, imm_26, fits_t, fits_f, Nums.mk.injEq, decide_eq_false_iff_not, Nat.or_zero]
  try unfold dg
  constructor
  · rintro ⟨e1, e2, e3, e4, e5⟩
    refine ⟨?_, ?_, ?_, ?_, ?_⟩ <;> first | trivial | omega
  · rintro ⟨e1, e2, e3, e4, e5⟩
    refine ⟨?_, ?_, ?_, ?_, ?_⟩ <;> first | trivial | omega
theorem tl_s (op sub : Nat) (ho : op < 64) (h1' : op ≠ 1) (hs : sub < 2048) (n : Nums) (h0 : 0 ≤ n.i) (h1 : n.i ≤ 4294967295) : takeAll ([115], [115], 0, 16) (layAll ([115], [115], 0, 16) (op : Int) (sub : Int) n) = n ↔ (fitsOf n.s true = true ∧ fitsOf n.t false = true ∧ fitsOf n.d false = true ∧ fitsOf n.a false = true ∧ decide (1 ≤ n.i) = false) := by
  obtain ⟨s, t, d, a, i⟩ := n
  dsimp only at h0 h1 ⊢
  rw [lay_s op sub ho h1' hs ⟨s, t, d, a, i⟩, take_s]
  simp only [fld_s, fld_t, fld_d, fld_a, imm_16, imm_20, imm_26, fits_t, fits_f, Nums.mk.injEq, decide_eq_false_iff_not, Nat.or_zero]
  try unfold dg
  constructor
  · rintro ⟨e1, e2, e3, e4, e5⟩
    refine ⟨?_, ?_, ?_, ?_, ?_⟩ <;> first | trivial | omega
  · rintro ⟨e1, e2, e3, e4, e5⟩
    refine ⟨?_, ?_, ?_, ?_, ?_⟩ <;> first | trivial | omega
theorem tl_ds (op sub : Nat) (ho : op < 64) (h1' : op ≠ 1) (hs : sub < 2048) (n : Nums) (h0 : 0 ≤ n.i) (h1 : n.i ≤ 4294967295) : takeAll ([100, 115], [100, 115], 0, 16) (layAll ([100, 115], [100, 115], 0, 16) (op : Int) (sub : Int) n) = n ↔ (fitsOf n.s true = true ∧ fitsOf n.t false = true ∧ fitsOf n.d true = true ∧ fitsOf n.a false = true ∧ decide (1 ≤ n.i) = false) := by
  obtain ⟨s, t, d, a, i⟩ := n
  dsimp only at h0 h1 ⊢
  rw [lay_ds op sub ho h1' hs ⟨s, t, d, a, i⟩, take_ds]
  simp only [fld_s, fld_t, fld_d, fld_a, imm_16, imm_20, imm_26, fits_t, fits_f, Nums.mk.injEq, decide_eq_false_iff_not, Nat.or_zero]
  try unfold dg
  constructor
  · rintro ⟨e1, e2, e3, e4, e5⟩
    refine ⟨?_, ?_, ?_, ?_, ?_⟩ <;> first | trivial | omega
  · rintro ⟨e1, e2, e3, e4, e5⟩
    refine ⟨?_, ?_, ?_, ?_, ?_⟩ <;> first | trivial | omega
theorem tl_c (op sub : Nat) (ho : op < 64) (h1' : op ≠ 1) (hs : sub < 2048) (n : Nums) (h0 : 0 ≤ n.i) (h1 : n.i ≤ 4294967295) : takeAll ([99], [105], 6, 20) (layAll ([99], [105], 6, 20) (op : Int) (sub : Int) n) = n ↔ (fitsOf n.s false = true ∧ fitsOf n.t false = true ∧ fitsOf n.d false = true ∧ fitsOf n.a false = true ∧ decide (1048576 ≤ n.i) = false) := by
  obtain ⟨s, t, d, a, i⟩ := n
  dsimp only at h0 h1 ⊢
  rw [lay_c op sub ho h1' hs ⟨s, t, d, a, i⟩ h0 h1, take_c]
  simp only [fld_s, fld_t, fld_d, fld_a, imm_16, imm_20, imm_26, fits_t, fits_f, Nums.mk.injEq, decide_eq_false_iff_not, Nat.or_zero]
  try unfold dg
  constructor
  · rintro ⟨e1, e2, e3, e4, e5⟩
    refine ⟨?_, ?_, ?_, ?_, ?_⟩ <;> first | trivial | omega
  · rintro ⟨e1, e2, e3, e4, e5⟩
    refine ⟨?_, ?_, ?_, ?_, ?_⟩ <;> first | trivial | omega
theorem tl_d (op sub : Nat) (ho : op < 64) (h1' : op ≠ 1) (hs : sub < 2048) (n : Nums) (h0 : 0 ≤ n.i) (h1 : n.i ≤ 4294967295) : takeAll ([100], [100], 0, 16) (layAll ([100], [100], 0, 16) (op : Int) (sub : Int) n) = n ↔ (fitsOf n.s false = true ∧ fitsOf n.t false = true ∧ fitsOf n.d true = true ∧ fitsOf n.a false = true ∧ decide (1 ≤ n.i) = false) := by
  obtain ⟨s, t, d, a, i⟩ := n
  dsimp only at h0 h1 ⊢
  rw [lay_d op sub ho h1' hs ⟨s, t, d, a, i⟩, take_d]
  simp only [fld_s, fld_t, fld_d, fld_a, imm_16, imm_20, imm_26, fits_t, fits_f, Nums.mk.injEq, decide_eq_false_iff_not, Nat.or_zero]
  try unfold dg
  constructor
  · rintro ⟨e1, e2, e3, e4, e5⟩
    refine ⟨?_, ?_, ?_, ?_, ?_⟩ <;> first | trivial | omega
  · rintro ⟨e1, e2, e3, e4, e5⟩
    refine ⟨?_, ?_, ?_, ?_, ?_⟩ <;> first | trivial | omega
theorem tl_st (op sub : Nat) (ho : op < 64) (h1' : op ≠ 1) (hs : sub < 2048) (n : Nums) (h0 : 0 ≤ n.i) (h1 : n.i ≤ 4294967295) : takeAll ([115, 116], [115, 116], 0, 16) (layAll ([115, 116], [115, 116], 0, 16) (op : Int) (sub : Int) n) = n ↔ (fitsOf n.s true = true ∧ fitsOf n.t true = true ∧ fitsOf n.d false = true ∧ fitsOf n.a false = true ∧ decide (1 ≤ n.i) = false) := by
  obtain ⟨s, t, d, a, i⟩ := n
  dsimp only at h0 h1 ⊢
  rw [lay_st op sub ho h1' hs ⟨s, t, d, a, i⟩, take_st]
  simp only [fld_s, fld_t, fld_d, fld_a, imm_16, imm_20, imm_26, fits_t, fits_f, Nums.mk.injEq, decide_eq_false_iff_not, Nat.or_zero]
  try unfold dg
  constructor
  · rintro ⟨e1, e2, e3, e4, e5⟩
    refine ⟨?_, ?_, ?_, ?_, ?_⟩ <;> first | trivial | omega
  · rintro ⟨e1, e2, e3, e4, e5⟩
    refine ⟨?_, ?_, ?_, ?_, ?_⟩ <;> first | trivial | omega
theorem tl_dtr (op sub : Nat) (ho : op < 64) (h1' : op ≠ 1) (hs : sub < 2048) (n : Nums) (h0 : 0 ≤ n.i) (h1 : n.i ≤ 4294967295) : takeAll ([100, 116, 114], [100, 116, 97], 0, 16) (layAll ([100, 116, 114], [100, 116, 97], 0, 16) (op : Int) (sub : Int) n) = n ↔ (fitsOf n.s false = true ∧ fitsOf n.t true = true ∧ fitsOf n.d true = true ∧ fitsOf n.a true = true ∧ decide (1 ≤ n.i) = false) := by
  obtain ⟨s, t, d, a, i⟩ := n
  dsimp only at h0 h1 ⊢
  rw [lay_dtr op sub ho h1' hs ⟨s, t, d, a, i⟩, take_dtr]
  simp only [fld_s, fld_t, fld_d, fld_a, imm_16, imm_20, imm_26, fits_t, fits_f, Nums.mk.injEq, decide_eq_false_iff_not, Nat.or_zero]
  try unfold dg
  constructor
  · rintro ⟨e1, e2, e3, e4, e5⟩
    refine ⟨?_, ?_, ?_, ?_, ?_⟩ <;> first | trivial | omega
  · rintro ⟨e1, e2, e3, e4, e5⟩
    refine ⟨?_, ?_, ?_, ?_, ?_⟩ <;> first | trivial | omega
theorem tl_dtv (op sub : Nat) (ho : op < 64) (h1' : op ≠ 1) (hs : sub < 2048) (n : Nums) (h0 : 0 ≤ n.i) (h1 : n.i ≤ 4294967295) : takeAll ([100, 116, 118], [100, 116, 115], 0, 16) (layAll ([100, 116, 118], [100, 116, 115], 0, 16) (op : Int) (sub : Int) n) = n ↔ (fitsOf n.s true = true ∧ fitsOf n.t true = true ∧ fitsOf n.d true = true ∧ fitsOf n.a false = true ∧ decide (1 ≤ n.i) = false) := by
  obtain ⟨s, t, d, a, i⟩ := n
  dsimp only at h0 h1 ⊢
  rw [lay_dtv op sub ho h1' hs ⟨s, t, d, a, i⟩, take_dtv]
  simp only [fld_s, fld_t, fld_d, fld_a, imm_16, imm_20, imm_26, fits_t, fits_f, Nums.mk.injEq, decide_eq_false_iff_not, Nat.or_zero]
  try unfold dg
  constructor
  · rintro ⟨e1, e2, e3, e4, e5⟩
    refine ⟨?_, ?_, ?_, ?_, ?_⟩ <;> first | trivial | omega
  · rintro ⟨e1, e2, e3, e4, e5⟩
    refine ⟨?_, ?_, ?_, ?_, ?_⟩ <;> first | trivial | omega
theorem tl_so (op sub : Nat) (ho : op < 64) (h1' : op ≠ 1) (hs : sub = 0) (n : Nums) (h0 : 0 ≤ n.i) (h1 : n.i ≤ 4294967295) : takeAll ([115, 111], [115, 105], 0, 16) (layAll ([115, 111], [115, 105], 0, 16) (op : Int) (sub : Int) n) = n ↔ (fitsOf n.s true = true ∧ fitsOf n.t false = true ∧ fitsOf n.d false = true ∧ fitsOf n.a false = true ∧ decide (65536 ≤ n.i) = false) := by
  subst hs
  obtain ⟨s, t, d, a, i⟩ := n
  dsimp only at h0 h1 ⊢
  rw [lay_so op 0 ho h1' (by decide) ⟨s, t, d, a, i⟩ h0 h1, take_so]
  simp only [fld_s, fld_t, fld_d, fld_a, imm_16, imm_20, imm_26, fits_t, fits_f, Nums.mk.injEq, decide_eq_false_iff_not, Nat.or_zero]
  try unfold dg
  constructor
  · rintro ⟨e1, e2, e3, e4, e5⟩
    refine ⟨?_, ?_, ?_, ?_, ?_⟩ <;> first | trivial | omega
  · rintro ⟨e1, e2, e3, e4, e5⟩
    refine ⟨?_, ?_, ?_, ?_, ?_⟩ <;> first | trivial | omega
theorem tl_j (op sub : Nat) (ho : op < 64) (h1' : op ≠ 1) (hs : sub = 0) (n : Nums) (h0 : 0 ≤ n.i) (h1 : n.i ≤ 4294967295) : takeAll ([106], [105], 0, 26) (layAll ([106], [105], 0, 26) (op : Int) (sub : Int) n) = n ↔ (fitsOf n.s false = true ∧ fitsOf n.t false = true ∧ fitsOf n.d false = true ∧ fitsOf n.a false = true ∧ decide (67108864 ≤ n.i) = false) := by
  subst hs
  obtain ⟨s, t, d, a, i⟩ := n
  dsimp only at h0 h1 ⊢
  rw [lay_j op 0 ho h1' (by decide) ⟨s, t, d, a, i⟩ h0 h1, take_j]
  simp only [fld_s, fld_t, fld_d, fld_a, imm_16, imm_20, imm_26, fits_t, fits_f, Nums.mk.injEq, decide_eq_false_iff_not, Nat.or_zero]
  try unfold dg
  constructor
  · rintro ⟨e1, e2, e3, e4, e5⟩
    refine ⟨?_, ?_, ?_, ?_, ?_⟩ <;> first | trivial | omega
  · rintro ⟨e1, e2, e3, e4, e5⟩
    refine ⟨?_, ?_, ?_, ?_, ?_⟩ <;> first | trivial | omega
theorem tl_sto (op sub : Nat) (ho : op < 64) (h1' : op ≠ 1) (hs : sub = 0) (n : Nums) (h0 : 0 ≤ n.i) (h1 : n.i ≤ 4294967295) : takeAll ([115, 116, 111], [115, 116, 105], 0, 16) (layAll ([115, 116, 111], [115, 116, 105], 0, 16) (op : Int) (sub : Int) n) = n ↔ (fitsOf n.s true = true ∧ fitsOf n.t true = true ∧ fitsOf n.d false = true ∧ fitsOf n.a false = true ∧ decide (65536 ≤ n.i) = false) := by
  subst hs
  obtain ⟨s, t, d, a, i⟩ := n
  dsimp only at h0 h1 ⊢
  rw [lay_sto op 0 ho h1' (by decide) ⟨s, t, d, a, i⟩ h0 h1, take_sto]
  simp only [fld_s, fld_t, fld_d, fld_a, imm_16, imm_20, imm_26, fits_t, fits_f, Nums.mk.injEq, decide_eq_false_iff_not, Nat.or_zero]
  try unfold dg
  constructor
  · rintro ⟨e1, e2, e3, e4, e5⟩
    refine ⟨?_, ?_, ?_, ?_, ?_⟩ <;> first | trivial | omega
  · rintro ⟨e1, e2, e3, e4, e5⟩
    refine ⟨?_, ?_, ?_, ?_, ?_⟩ <;> first | trivial | omega
theorem tl_tsi (op sub : Nat) (ho : op < 64) (h1' : op ≠ 1) (hs : sub = 0) (n : Nums) (h0 : 0 ≤ n.i) (h1 : n.i ≤ 4294967295) : takeAll ([116, 115, 105], [116, 115, 105], 0, 16) (layAll ([116, 115, 105], [116, 115, 105], 0, 16) (op : Int) (sub : Int) n) = n ↔ (fitsOf n.s true = true ∧ fitsOf n.t true = true ∧ fitsOf n.d false = true ∧ fitsOf n.a false = true ∧ decide (65536 ≤ n.i) = false) := by
  subst hs
  obtain ⟨s, t, d, a, i⟩ := n
  dsimp only at h0 h1 ⊢
  rw [lay_tsi op 0 ho h1' (by decide) ⟨s, t, d, a, i⟩ h0 h1, take_tsi]
  simp only [fld_s, fld_t, fld_d, fld_a, imm_16, imm_20, imm_26, fits_t, fits_f, Nums.mk.injEq, decide_eq_false_iff_not, Nat.or_zero]
  try unfold dg
  constructor
  · rintro ⟨e1, e2, e3, e4, e5⟩
    refine ⟨?_, ?_, ?_, ?_, ?_⟩ <;> first | trivial | omega
  · rintro ⟨e1, e2, e3, e4, e5⟩
    refine ⟨?_, ?_, ?_, ?_, ?_⟩ <;> first | trivial | omega
theorem tl_ti (op sub : Nat) (ho : op < 64) (h1' : op ≠ 1) (hs : sub = 0) (n : Nums) (h0 : 0 ≤ n.i) (h1 : n.i ≤ 4294967295) : takeAll ([116, 105], [116, 105], 0, 16) (layAll ([116, 105], [116, 105], 0, 16) (op : Int) (sub : Int) n) = n ↔ (fitsOf n.s false = true ∧ fitsOf n.t true = true ∧ fitsOf n.d false = true ∧ fitsOf n.a false = true ∧ decide (65536 ≤ n.i) = false) := by
  subst hs
  obtain ⟨s, t, d, a, i⟩ := n
  dsimp only at h0 h1 ⊢
  rw [lay_ti op 0 ho h1' (by decide) ⟨s, t, d, a, i⟩ h0 h1, take_ti]
  simp only [fld_s, fld_t, fld_d, fld_a, imm_16, imm_20, imm_26, fits_t, fits_f, Nums.mk.injEq, decide_eq_false_iff_not, Nat.or_zero]
  try unfold dg
  constructor
  · rintro ⟨e1, e2, e3, e4, e5⟩
    refine ⟨?_, ?_, ?_, ?_, ?_⟩ <;> first | trivial | omega
  · rintro ⟨e1, e2, e3, e4, e5⟩
    refine ⟨?_, ?_, ?_, ?_, ?_⟩ <;> first | trivial | omega
theorem tl_dsd (op sub : Nat) (ho : op < 64) (h1' : op ≠ 1) (hs : sub < 2048) (n : Nums) (h0 : 0 ≤ n.i) (h1 : n.i ≤ 4294967295) : takeAll ([100, 115, 100], [100, 115], 0, 16) (layAll ([100, 115, 100], [100, 115], 0, 16) (op : Int) (sub : Int) n) = n ↔ (fitsOf n.s true = true ∧ fitsOf n.t false = true ∧ fitsOf n.d true = true ∧ fitsOf n.a false = true ∧ decide (1 ≤ n.i) = false) := by
  obtain ⟨s, t, d, a, i⟩ := n
  dsimp only at h0 h1 ⊢
  rw [lay_dsd op sub ho h1' hs ⟨s, t, d, a, i⟩, take_dsd]
  simp only [fld_s, fld_t, fld_d, fld_a, imm_16, imm_20, imm_26, fits_t, fits_f, Nums.mk.injEq, decide_eq_false_iff_not, Nat.or_zero]
  try unfold dg
  constructor
  · rintro ⟨e1, e2, e3, e4, e5⟩
    refine ⟨?_, ?_, ?_, ?_, ?_⟩ <;> first | trivial | omega
  · rintro ⟨e1, e2, e3, e4, e5⟩
    refine ⟨?_, ?_, ?_, ?_, ?_⟩ <;> first | trivial | omega
theorem tl_tsx (op sub : Nat) (ho : op < 64) (h1' : op ≠ 1) (hs : sub < 2048) (n : Nums) (h0 : 0 ≤ n.i) (h1 : n.i ≤ 4294967295) : takeAll ([116, 115, 120], [116, 115, 100, 97], 0, 16) (layAll ([116, 115, 120], [116, 115, 100, 97], 0, 16) (op : Int) (sub : Int) n) = n ↔ (fitsOf n.s true = true ∧ fitsOf n.t true = true ∧ fitsOf n.d true = true ∧ fitsOf n.a true = true ∧ decide (1 ≤ n.i) = false) := by
  obtain ⟨s, t, d, a, i⟩ := n
  dsimp only at h0 h1 ⊢
  rw [lay_tsx op sub ho h1' hs ⟨s, t, d, a, i⟩, take_tsx]
  simp only [fld_s, fld_t, fld_d, fld_a, imm_16, imm_20, imm_26, fits_t, fits_f, Nums.mk.injEq, decide_eq_false_iff_not, Nat.or_zero]
  try unfold dg
  constructor
  · rintro ⟨e1, e2, e3, e4, e5⟩
    refine ⟨?_, ?_, ?_, ?_, ?_⟩ <;> first | trivial | omega
  · rintro ⟨e1, e2, e3, e4, e5⟩
    refine ⟨?_, ?_, ?_, ?_, ?_⟩ <;> first | trivial | omega
theorem tl_dt (op sub : Nat) (ho : op < 64) (h1' : op ≠ 1) (hs : sub < 2048) (n : Nums) (h0 : 0 ≤ n.i) (h1 : n.i ≤ 4294967295) : takeAll ([100, 116], [100, 116], 0, 16) (layAll ([100, 116], [100, 116], 0, 16) (op : Int) (sub : Int) n) = n ↔ (fitsOf n.s false = true ∧ fitsOf n.t true = true ∧ fitsOf n.d true = true ∧ fitsOf n.a false = true ∧ decide (1 ≤ n.i) = false) := by
  obtain ⟨s, t, d, a, i⟩ := n
  dsimp only at h0 h1 ⊢
  rw [lay_dt op sub ho h1' hs ⟨s, t, d, a, i⟩, take_dt]
  simp only [fld_s, fld_t, fld_d, fld_a, imm_16, imm_20, imm_26, fits_t, fits_f, Nums.mk.injEq, decide_eq_false_iff_not, Nat.or_zero]
  try unfold dg
  constructor
  · rintro ⟨e1, e2, e3, e4, e5⟩
    refine ⟨?_, ?_, ?_, ?_, ?_⟩ <;> first | trivial | omega
  · rintro ⟨e1, e2, e3, e4, e5⟩
    refine ⟨?_, ?_, ?_, ?_, ?_⟩ <;> first | trivial | omega
theorem tl_td (op sub : Nat) (ho : op < 64) (h1' : op ≠ 1) (hs : sub < 2048) (n : Nums) (h0 : 0 ≤ n.i) (h1 : n.i ≤ 4294967295) : takeAll ([116, 100], [116, 100], 0, 16) (layAll ([116, 100], [116, 100], 0, 16) (op : Int) (sub : Int) n) = n ↔ (fitsOf n.s false = true ∧ fitsOf n.t true = true ∧ fitsOf n.d true = true ∧ fitsOf n.a false = true ∧ decide (1 ≤ n.i) = false) := by
  obtain ⟨s, t, d, a, i⟩ := n
  dsimp only at h0 h1 ⊢
  rw [lay_td op sub ho h1' hs ⟨s, t, d, a, i⟩, take_td]
  simp only [fld_s, fld_t, fld_d, fld_a, imm_16, imm_20, imm_26, fits_t, fits_f, Nums.mk.injEq, decide_eq_false_iff_not, Nat.or_zero]
  try unfold dg
  constructor
  · rintro ⟨e1, e2, e3, e4, e5⟩
    refine ⟨?_, ?_, ?_, ?_, ?_⟩ <;> first | trivial | omega
  · rintro ⟨e1, e2, e3, e4, e5⟩
    refine ⟨?_, ?_, ?_, ?_, ?_⟩ <;> first | trivial | omega
theorem tl_so1 (sub : Nat) (hs : sub < 32) (n : Nums) (h0 : 0 ≤ n.i) (h1 : n.i ≤ 4294967295) : takeAll ([115, 111], [115, 105], 0, 16) (layAll ([115, 111], [115, 105], 0, 16) 1 (sub : Int) n) = n ↔ (fitsOf n.s true = true ∧ fitsOf n.t false = true ∧ fitsOf n.d false = true ∧ fitsOf n.a false = true ∧ decide (65536 ≤ n.i) = false) := by
  obtain ⟨s, t, d, a, i⟩ := n
  dsimp only at h0 h1 ⊢
  rw [lay_one sub hs ⟨s, t, d, a, i⟩ h0 h1, take_so]
  simp only [fld_s, fld_t, fld_d, fld_a, imm_16, imm_20, imm_26, fits_t, fits_f, Nums.mk.injEq, decide_eq_false_iff_not, Nat.or_zero]
  try unfold dg
  constructor
  · rintro ⟨e1, e2, e3, e4, e5⟩
    refine ⟨?_, ?_, ?_, ?_, ?_⟩ <;> first | trivial | omega
  · rintro ⟨e1, e2, e3, e4, e5⟩
    refine ⟨?_, ?_, ?_, ?_, ?_⟩ <;> first | trivial | omega
end Go.Proofs.YtjkpgfjnidflhaaDoor.F
end
