import Derived.Below
import Derived.Deep.Draws
import Derived.Deep.AppendLies
import Derived.Maps.AppendAt
import Derived.OwnWalk
import Derived.Laws.BytesArg
import Derived.Laws.MakeOwn
import Derived.Laws.OwnMore
import Derived.Deep.OwnRows
import Derived.Tactics
import Derived.Lib.ConvBytes
import Derived.Laws.Slices
import Derived.WalkKit
import Derived.KernelRfl
import Derived.RowKit3
import Derived.Deep.LoopGhost
import Derived.Deep.QuietTactic
import Derived.BigQuiet
import Derived.WideLaws
import Derived.Deep.DeepCutAuto
import Derived.Deep.CutBlock
import Derived.Deep.RegionHeld3
import Derived.Laws.Rows
import Derived.Lib.AppendStr
import Derived.ArgAppend
import Derived.Laws.IdiomCopy
import Derived.RowKit
import Derived.OpenShut
import Derived.ProofKit
import Derived.Deep.Slices
import Derived.SizedLaws
import Derived.OrdersHeld
import Derived.Laws.BitsLemmas
import Derived.Laws.StructEq
import Derived.Shelf.Strings.Builder1
import Derived.Shelf.Strings.BuilderF
import Derived.Shelf.Strings.BuilderK
import Derived.RangeFuncNested
import Derived.RangeFuncBound
import Derived.RangeFuncCalls
import Derived.RangeFuncLeaves
import Derived.RangeFuncWrites
import Derived.Shelf.Abstract
import Derived.Shelf.RegionOpen
import Derived.OwnWalkIn
import Derived.TacticsInMore
import Derived.LoopNIn
import Derived.LoopIn
import Derived.Lib.Hide
import Derived.WalkLawsBesides
import Derived.WalkSmall
import Derived.Laws.ResultCell
import Derived.RangeFuncRecord
import Derived.Deep.RegionWith
import Derived.Defers
import Derived.Recover
import Derived.Tactics2
import Derived.Lib.Builder
import Derived.Lib.UnsafeStr
import Derived.StillTailTactics
import Derived.Test.YtonoabknmmecnaaZF0
import Derived.Test.YtonoabknmmecnaaYA4
import Derived.Test.YtonoabknmmecnaaYA5HElf2
import Derived.Test.YtonoabknmmecnaaYA6HElf3
import Derived.Test.YtonoabknmmecnaaYA7HElf4
import Derived.Test.YtonoabknmmecnaaYA10HElf7
import Derived.Test.YtonoabknmmecnaaYA13
import Derived.Test.YtonoabknmmecnaaYC15FFerryref13FitSeg
import Derived.Test.YtonoabknmmecnaaYC16FFerryref13Fit
section
namespace Go.Proofs.Ytonoabknmmecnaa.Opens
open Go.ChangeShapes Go.WideShapes Go.RowKit Go.Deep
open Go.Proofs.YtonoabknmmecnaaW.PrintWords

theorem wf_u32 {n : Int} (h : (Lit.int .u32 n).wf = true) : 0 ≤ n ∧ n ≤ 4294967295 := by
  simp only [Lit.wf, Bool.and_eq_true, decide_eq_true_eq] at h
  exact ⟨h.1, h.2⟩
end Go.Proofs.Ytonoabknmmecnaa.Opens
end
section
namespace Go.Proofs.Ytonoabknmmecnaa.F
open Go.RowKit Go.Proofs.YtonoabknmmecnaaW.PrintWords Go.Proofs.YtonoabknmmecnaaW.PrintLast Go.Proofs.YtonoabknmmecnaaW.PrintMore

def wfS39 (x : S39) : Prop := ((-9223372036854775808) ≤ x.f0 ∧ x.f0 ≤ 9223372036854775807) ∧ (0 ≤ x.f1 ∧ x.f1 ≤ 4294967295) ∧ (0 ≤ x.f2 ∧ x.f2 ≤ 4294967295) ∧ (0 ≤ x.f3 ∧ x.f3 ≤ 4294967295) ∧ (0 ≤ x.f4 ∧ x.f4 ≤ 4294967295) ∧ ((-9223372036854775808) ≤ x.f5 ∧ x.f5 ≤ 9223372036854775807) ∧ (0 ≤ x.f6 ∧ x.f6 ≤ 4294967295)
end Go.Proofs.Ytonoabknmmecnaa.F
end
section
namespace Go.Proofs.Ytonoabknmmecnaa.F
open Go.RowKit Go.Proofs.YtonoabknmmecnaaW.PrintWords Go.Proofs.YtonoabknmmecnaaW.PrintLast Go.Proofs.YtonoabknmmecnaaW.PrintMore
theorem u32w (n : Int) : IntKind.u32.wrap n = n % 4294967296 := by simp [IntKind.wrap, IntKind.bits, IntKind.signed]
theorem u64w (n : Int) : IntKind.u64.wrap n = n % 18446744073709551616 := by simp [IntKind.wrap, IntKind.bits, IntKind.signed]
theorem u32_keep (n : Int) (h₀ : 0 ≤ n) (h₁ : n < 2 ^ 32) : IntKind.u32.wrap n = n := by rw [u32w]; omega
theorem bits_nat32 (a b : Nat) (ha : a < 2 ^ 32) (hb : b < 2 ^ 32) : Go.bits .and .u32 a b = ((a &&& b : Nat) : Int) ∧ Go.bits .or .u32 a b = ((a ||| b : Nat) : Int) ∧ Go.bits .xor .u32 a b = ((a ^^^ b : Nat) : Int) := by
  have h := bits_nat .u32 32 (by decide) u32_keep a b ha hb
  refine ⟨h.1, h.2, ?_⟩
  have ha' : a % 2 ^ 32 = a := Nat.mod_eq_of_lt ha
  have hb' : b % 2 ^ 32 = b := Nat.mod_eq_of_lt hb
  show IntKind.u32.wrap _ = _
  have e : (BitVec.ofInt 32 (a : Int) ^^^ BitVec.ofInt 32 (b : Int)).toNat = a ^^^ b := by
    rw [BitVec.ofInt_natCast, BitVec.ofInt_natCast, BitVec.toNat_xor, BitVec.toNat_ofNat, BitVec.toNat_ofNat, ha', hb']
  show IntKind.u32.wrap (((BitVec.ofInt 32 (a : Int) ^^^ BitVec.ofInt 32 (b : Int)).toNat : Nat) : Int) = _
  rw [e]
  have : a ^^^ b < 2 ^ 32 := Nat.xor_lt_two_pow ha hb
  rw [u32w]
  omega
end Go.Proofs.Ytonoabknmmecnaa.F
end
section
namespace Go.Proofs.Ytonoabknmmecnaa.F
open Go.RowKit Go.Proofs.YtonoabknmmecnaaW.PrintWords Go.Proofs.YtonoabknmmecnaaW.PrintLast Go.Proofs.YtonoabknmmecnaaW.PrintMore
set_option linter.unusedVariables false
theorem bv_andNot {w : Nat} (x y : BitVec w) : (x &&& ~~~y).toNat + (x &&& y).toNat = x.toNat := by
  have h : (x &&& ~~~y) &&& (x &&& y) = 0#w := by
    ext i hi
    simp
    cases x[i] <;> cases y[i] <;> simp
  rw [← BitVec.toNat_add_of_and_eq_zero h, BitVec.add_eq_or_of_and_eq_zero _ _ h]
  congr 1
  ext i hi
  simp
  cases x[i] <;> cases y[i] <;> simp
end Go.Proofs.Ytonoabknmmecnaa.F
end
section
namespace Go.Proofs.Ytonoabknmmecnaa.F
open Go.RowKit Go.Proofs.YtonoabknmmecnaaW.PrintWords Go.Proofs.YtonoabknmmecnaaW.PrintLast Go.Proofs.YtonoabknmmecnaaW.PrintMore
set_option linter.unusedVariables false
set_option linter.unusedSimpArgs false
theorem andNot7 (p : Int) (h0 : -9223372036854775808 ≤ p) (h1 : p ≤ 9223372036854775807) : Go.bits .andNot .i64 p 7 ≠ 0 ↔ ¬ (0 ≤ p ∧ p ≤ 7) := by
  have hb := bv_andNot (BitVec.ofInt 64 p) (BitVec.ofInt 64 7)
  have hm : (BitVec.ofInt 64 p &&& BitVec.ofInt 64 7).toNat = (BitVec.ofInt 64 p).toNat % 8 := by
    rw [BitVec.toNat_and, show (BitVec.ofInt 64 7).toNat = 2 ^ 3 - 1 by decide, Nat.and_two_pow_sub_one_eq_mod]
  have hp : (BitVec.ofInt 64 p).toNat = (p % 18446744073709551616).toNat := by rw [BitVec.toNat_ofInt]; rfl
  have e : Go.bits .andNot .i64 p 7 = IntKind.i64.wrap (((BitVec.ofInt 64 p &&& ~~~BitVec.ofInt 64 7).toNat : Nat) : Int) := rfl
  rw [hm] at hb
  rw [e, IntKind.wrap_i64]
  generalize hq : (BitVec.ofInt 64 p &&& ~~~BitVec.ofInt 64 7).toNat = q at hb
  rw [hp] at hb
  omega
theorem xor_mod (a b : Int) (a0 : 0 ≤ a) (a1 : a ≤ 4294967295) (b0 : 0 ≤ b) (b1 : b ≤ 4294967295) : (Int.tmod (Go.bits .xor .u32 a b) 4096 == 0) = (Int.tmod a 4096 == Int.tmod b 4096) := by
  obtain ⟨m, rfl⟩ := Int.eq_ofNat_of_zero_le a0
  obtain ⟨n, rfl⟩ := Int.eq_ofNat_of_zero_le b0
  have hx := (bits_nat32 m n (by omega) (by omega)).2.2
  rw [hx, Int.tmod_eq_emod_of_nonneg (by omega), Int.tmod_eq_emod_of_nonneg (by omega), Int.tmod_eq_emod_of_nonneg (by omega)]
  have hm : (m ^^^ n) % 2 ^ 12 = (m % 2 ^ 12) ^^^ (n % 2 ^ 12) := Nat.xor_mod_two_pow
  have h1 : (((m ^^^ n : Nat) : Int) % 4096 = 0) ↔ ((m : Int) % 4096 = (n : Int) % 4096) := by
    constructor
    · intro h
      have h2 : (m ^^^ n) % 2 ^ 12 = 0 := by omega
      rw [hm] at h2
      have h3 : m % 2 ^ 12 = n % 2 ^ 12 := by
        have h4 := congrArg (fun t => t ^^^ (n % 2 ^ 12)) h2
        simpa [Nat.xor_assoc] using h4
      omega
    · intro h
      have h2 : m % 2 ^ 12 = n % 2 ^ 12 := by omega
      have h3 : (m ^^^ n) % 2 ^ 12 = 0 := by rw [hm, h2, Nat.xor_self]
      omega
  by_cases h : (m : Int) % 4096 = (n : Int) % 4096
  · rw [beq_iff_eq.2 h, beq_iff_eq.2 (h1.2 h)]
  · rw [beq_eq_false_iff_ne.2 h, beq_eq_false_iff_ne.2 (fun hh => h (h1.1 hh))]
theorem ref_fitSeg_ev (x : S39) (h : wfS39 x) : Ev (fun k => ferryref13_fitSeg.f k x.f0 x.f1 x.f2 x.f3 x.f4 x.f5 x.f6) (!unfit x) := by
  obtain ⟨h0, h1, h2, h3, h4, h5, h6⟩ := h
  have hg := fits_get x
  generalize unfit x = u at hg ⊢
  unfold elf_fits.f at hg
  have hg := Option.some.inj hg
  rw [← hg]
  clear hg
  have a5 := andNot7 x.f5 h5.1 h5.2
  have ax := xor_mod x.f1 x.f2 h1.1 h1.2 h2.1 h2.2
  rw [ax]
  clear ax
  unfold ferryref13_fitSeg.f
  have u1 : IntKind.u64.wrap (IntKind.u64.wrap x.f1 + IntKind.u64.wrap x.f3) = x.f1 + x.f3 := by rw [u64w, u64w, u64w]; omega
  have u2 : IntKind.u64.wrap (IntKind.u64.wrap x.f2 + IntKind.u64.wrap x.f4) = x.f2 + x.f4 := by rw [u64w, u64w, u64w]; omega
  have no : Ev (fun k => ferryref13_fitSeg.j0 k true x.f0 x.f1 x.f2 x.f3 x.f4 x.f5 x.f6) false := by
    refine Ev.step (fun _ => rfl) ?_
    simp only [ferryref13_fitSeg.j0, if_true]
    exact Ev.now _
  by_cases c0 : x.f0 < 1
  · simp only [if_pos c0]
    exact no
  by_cases c1 : x.f0 > 3
  · simp only [if_neg c0, if_pos c1]
    exact no
  by_cases c5 : 0 ≤ x.f5 ∧ x.f5 ≤ 7
  rotate_left
  · simp only [if_neg c0, if_neg c1, if_pos (a5.2 c5)]
    by_cases c6 : x.f5 < 0
    · simp only [if_pos c6]
      exact no
    · simp only [if_neg c6, if_pos (show x.f5 > 7 by omega)]
      exact no
  simp only [if_neg c0, if_neg c1, if_neg (fun hh => a5.1 hh c5), if_neg (show ¬ x.f5 < 0 by omega), if_neg (show ¬ x.f5 > 7 by omega)]
  refine Ev.step (fun _ => rfl) ?_
  simp only [ferryref13_fitSeg.j0, u1, u2]
  by_cases d0 : x.f3 > x.f4
  · simp only [if_pos d0, decide_eq_true d0, if_true]
    exact Ev.now _
  simp only [if_neg d0, decide_eq_false d0, Bool.false_eq_true, if_false]
  by_cases d1 : x.f1 + x.f3 ≥ 4294967296
  · simp only [if_pos d1, if_pos (show ¬ (x.f1 + x.f3) % 4294967296 ≥ x.f1 by omega)]
    exact Ev.now _
  simp only [if_neg d1, if_neg (show ¬ ¬ (x.f1 + x.f3) % 4294967296 ≥ x.f1 by omega)]
  by_cases d2 : x.f2 + x.f4 ≥ 4294967296
  · simp only [if_pos d2, if_pos (show ¬ (x.f2 + x.f4) % 4294967296 ≥ x.f2 by omega)]
    exact Ev.now _
  simp only [if_neg d2, if_neg (show ¬ ¬ (x.f2 + x.f4) % 4294967296 ≥ x.f2 by omega)]
  by_cases d3 : x.f6 > 4096
  · by_cases d4 : x.f0 = 1
    · simp only [if_pos d3, if_pos d4, if_neg (show ¬ x.f6 = 4096 by omega)]
      exact Ev.now _
    · simp only [if_pos d3, if_neg d4, decide_eq_false (show ¬ x.f6 ≤ 4096 by omega)]
      exact Ev.now _
  · by_cases d4 : x.f0 = 1
    · by_cases d5 : x.f6 = 4096
      · simp only [if_neg d3, if_pos d4, if_pos d5]
        exact Ev.now _
      · simp only [if_neg d3, if_pos d4, if_neg d5]
        exact Ev.now _
    · simp only [if_neg d3, if_neg d4, decide_eq_true (show x.f6 ≤ 4096 by omega)]
      exact Ev.now _
theorem ref_Fit_l (sh : Bool) (en : Int) (l : List S39) (hw : ∀ x ∈ l, wfS39 x) (hb : l.length < 1000000) : ∀ (d i : Nat), i + d = l.length → Ev (fun k => ferryref13_Fit.l0 k (i : Int) sh en l) (!((l.drop i).any unfit))
  | 0, i, h => by
    refine Ev.step (fun _ => rfl) ?_
    rw [List.drop_eq_nil_of_le (by omega)]
    simp only [ferryref13_Fit.l0, if_neg (show ¬ ((i : Int) < (l.length : Int)) by omega)]
    exact Ev.now _
  | d + 1, i, h => by
    have ih := ref_Fit_l sh en l hw hb d (i + 1) (by omega)
    refine Ev.step (fun _ => rfl) ?_
    have hi : i < l.length := by omega
    simp only [ferryref13_Fit.l0, if_pos (show ((i : Int) < (l.length : Int)) by omega), if_pos (show (0 : Int) ≤ (i : Int) by omega), w64_id (show -9223372036854775808 ≤ (i : Int) + 1 by omega) (by omega), rd_seg hi]
    refine Ev.bind (ref_fitSeg_ev l[i] (hw _ (List.getElem_mem hi))) ?_
    rw [List.drop_eq_getElem_cons hi, List.any_cons]
    cases hu : unfit l[i]
    · simp only [Bool.not_false, if_true, Bool.false_or]
      exact ih
    · simp only [Bool.not_true, Bool.false_eq_true, if_false, Bool.true_or]
      exact Ev.now _
theorem ref_Fit_ev (sh : Bool) (en : Int) (l : List S39) (hw : ∀ x ∈ l, wfS39 x) (hb : l.length < 1000000) : Ev (fun k => ferryref13_Fit.f k sh en l) (decide (l.length ≤ 16) && !(l.any unfit)) := by
  unfold ferryref13_Fit.f
  by_cases h : l.length ≤ 16
  · simp only [if_neg (show ¬ (l.length : Int) > 16 by omega), decide_eq_true h, Bool.true_and]
    have := ref_Fit_l sh en l hw hb l.length 0 (by omega)
    simpa using this
  · simp only [if_pos (show (l.length : Int) > 16 by omega), decide_eq_false h, Bool.false_and]
    exact Ev.now _
end Go.Proofs.Ytonoabknmmecnaa.F
end
section
namespace Go.Proofs.Ytonoabknmmecnaa.F
open Go.RowKit Go.Proofs.YtonoabknmmecnaaW.PrintWords Go.Proofs.YtonoabknmmecnaaW.PrintLast Go.Proofs.YtonoabknmmecnaaW.PrintMore
set_option linter.unusedVariables false
set_option linter.unusedSimpArgs false
theorem fit_read {x : S39} (hw : wfS39 x) (hu : unfit x = false) : segRead x := by
  obtain ⟨h0, h1, h2, h3, h4, h5, h6⟩ := hw
  have hg := fits_get x
  rw [hu] at hg
  unfold elf_fits.f at hg
  have hg := Option.some.inj hg
  have a5 := andNot7 x.f5 h5.1 h5.2
  split at hg
  · cases hg
  · split at hg
    · cases hg
    · split at hg
      · cases hg
      · rename_i c5
        have c5' : 0 ≤ x.f5 ∧ x.f5 ≤ 7 := by
          rcases Decidable.em (0 ≤ x.f5 ∧ x.f5 ≤ 7) with h | h
          · exact h
          · exact absurd (a5.2 h) c5
        exact ⟨⟨by omega, by omega⟩, ⟨h1.1, by omega⟩, ⟨h2.1, by omega⟩, ⟨h3.1, by omega⟩, ⟨h4.1, by omega⟩, ⟨c5'.1, by omega⟩, ⟨h6.1, by omega⟩⟩
end Go.Proofs.Ytonoabknmmecnaa.F
end
