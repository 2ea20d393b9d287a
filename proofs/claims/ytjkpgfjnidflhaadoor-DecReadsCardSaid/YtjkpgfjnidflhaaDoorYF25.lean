import Derived.Below
import Derived.Deep.Draws
import Derived.Deep.AppendLies
import Derived.Maps.AppendAt
import Derived.OwnWalk
import Derived.Laws.BytesArg
import Derived.Laws.MakeOwn
import Derived.Laws.OwnMore
import Derived.Deep.OwnRows
import Derived.Tactics
import Derived.Lib.ConvBytes
import Derived.Laws.Slices
import Derived.WalkKit
import Derived.KernelRfl
import Derived.RowKit3
import Derived.Deep.LoopGhost
import Derived.Deep.QuietTactic
import Derived.BigQuiet
import Derived.WideLaws
import Derived.Deep.DeepCutAuto
import Derived.Deep.CutBlock
import Derived.Deep.RegionHeld3
import Derived.Laws.Rows
import Derived.Lib.AppendStr
import Derived.ArgAppend
import Derived.Laws.IdiomCopy
import Derived.RowKit
import Derived.OrdersHeld
import Derived.Laws.BitsLemmas
import Derived.Laws.StructEq
import Derived.ProofKit
import Derived.OwnWalkIn
import Derived.WalkSmall
import Derived.Laws.ResultCell
import Derived.RangeFuncRecord
import Derived.Lib.Hide
import Derived.Deep.RegionWith
import Derived.Maps.OwnOps
import Derived.Shelf.LaysM
import Derived.Shelf.Strings.Replace
import Derived.Lib.LaidTab
import Derived.Shelf.Abstract
import Derived.Shelf.RegionOpen
import Derived.Test.YtjkpgfjnidflhaaDoorZF0
import Derived.Test.YtjkpgfjnidflhaaDoorYA1HDecRef
import Derived.Test.YtjkpgfjnidflhaaDoorYA5HDecTake
import Derived.Test.YtjkpgfjnidflhaaDoorYA8HDecForms
import Derived.Test.YtjkpgfjnidflhaaDoorYA16
import Derived.Test.YtjkpgfjnidflhaaDoorYA17PDec3
import Derived.Test.YtjkpgfjnidflhaaDoorYC21PDec1
section
namespace Go.Proofs.YtjkpgfjnidflhaaDoor.F
open Go.RowKit Go.Proofs.YtjkpgfjnidflhaaDoorW.PrintWords Go.Proofs.YtjkpgfjnidflhaaDoorW.PrintLast Go.Proofs.YtjkpgfjnidflhaaDoorW.PrintMore
set_option linter.unusedVariables false
set_option linter.unusedSimpArgs false
theorem ref_s {n : Int} (h0 : 0 ≤ n) (h1 : n < 32) : (n % 4294967296 * 2097152) % 4294967296 = (W 0 (dg n) 0 0 0 0 : Int) := by
  rw [W_val]
  unfold dg
  omega
theorem ref_t {n : Int} (h0 : 0 ≤ n) (h1 : n < 32) : (n % 4294967296 * 65536) % 4294967296 = (W 0 0 (dg n) 0 0 0 : Int) := by
  rw [W_val]
  unfold dg
  omega
theorem ref_d {n : Int} (h0 : 0 ≤ n) (h1 : n < 32) : (n % 4294967296 * 2048) % 4294967296 = (W 0 0 0 (dg n) 0 0 : Int) := by
  rw [W_val]
  unfold dg
  omega
theorem ref_i16 {i : Int} (h0 : 0 ≤ i) (h1 : i < 65536) : i = (W 0 0 0 (i.toNat / 2048) (i.toNat / 64) i.toNat : Int) := by
  rw [W_val]
  omega
end Go.Proofs.YtjkpgfjnidflhaaDoor.F
end
section
namespace Go.Proofs.YtjkpgfjnidflhaaDoor.F
open Go.RowKit Go.Proofs.YtjkpgfjnidflhaaDoorW.PrintWords Go.Proofs.YtjkpgfjnidflhaaDoorW.PrintLast Go.Proofs.YtjkpgfjnidflhaaDoorW.PrintMore
set_option linter.unusedVariables false
set_option linter.unusedSimpArgs false
theorem tl_dst (op sub : Nat) (ho : op < 64) (h1' : op ≠ 1) (hs : sub < 2048) (n : Nums) (h0 : 0 ≤ n.i) (h1 : n.i ≤ 4294967295) : takeAll ([100, 115, 116], [100, 115, 116], 0, 16) (layAll ([100, 115, 116], [100, 115, 116], 0, 16) (op : Int) (sub : Int) n) = n ↔ (fitsOf n.s true = true ∧ fitsOf n.t true = true ∧ fitsOf n.d true = true ∧ fitsOf n.a false = true ∧ decide (1 ≤ n.i) = false) := by
  obtain ⟨s, t, d, a, i⟩ := n
  dsimp only at h0 h1 ⊢
  rw [lay_dst op sub ho h1' hs ⟨s, t, d, a, i⟩, take_dst]
  simp only [fld_s, fld_t, fld_d, fld_a, imm_16, imm_20, imm_26, fits_t, fits_f, Nums.mk.injEq, decide_eq_false_iff_not, Nat.or_zero]
  try unfold dg
  constructor
  · rintro ⟨e1, e2, e3, e4, e5⟩
    refine ⟨?_, ?_, ?_, ?_, ?_⟩ <;> first | trivial | omega
  · rintro ⟨e1, e2, e3, e4, e5⟩
    refine ⟨?_, ?_, ?_, ?_, ?_⟩ <;> first | trivial | omega
theorem tl_tm (op sub : Nat) (ho : op < 64) (h1' : op ≠ 1) (hs : sub = 0) (n : Nums) (h0 : 0 ≤ n.i) (h1 : n.i ≤ 4294967295) : takeAll ([116, 109], [116, 115, 105], 0, 16) (layAll ([116, 109], [116, 115, 105], 0, 16) (op : Int) (sub : Int) n) = n ↔ (fitsOf n.s true = true ∧ fitsOf n.t true = true ∧ fitsOf n.d false = true ∧ fitsOf n.a false = true ∧ decide (65536 ≤ n.i) = false) := by
  subst hs
  obtain ⟨s, t, d, a, i⟩ := n
  dsimp only at h0 h1 ⊢
  rw [lay_tm op 0 ho h1' (by decide) ⟨s, t, d, a, i⟩ h0 h1, take_tm]
  simp only [fld_s, fld_t, fld_d, fld_a, imm_16, imm_20, imm_26, fits_t, fits_f, Nums.mk.injEq, decide_eq_false_iff_not, Nat.or_zero]
  try unfold dg
  constructor
  · rintro ⟨e1, e2, e3, e4, e5⟩
    refine ⟨?_, ?_, ?_, ?_, ?_⟩ <;> first | trivial | omega
  · rintro ⟨e1, e2, e3, e4, e5⟩
    refine ⟨?_, ?_, ?_, ?_, ?_⟩ <;> first | trivial | omega
end Go.Proofs.YtjkpgfjnidflhaaDoor.F
end
