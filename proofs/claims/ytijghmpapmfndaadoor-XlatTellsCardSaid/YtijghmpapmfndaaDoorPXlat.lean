/- Flags of an opening: the document's text computes the same. No condition. -/
import Derived.Test.YtijghmpapmfndaaDoorPXlat0
namespace Go.Proofs.YtijghmpapmfndaaDoor.F
open Go.RowKit Go.Proofs.YtijghmpapmfndaaDoorW.PrintWords Go.Proofs.YtijghmpapmfndaaDoorW.PrintLast Go.Proofs.YtijghmpapmfndaaDoorW.PrintMore
set_option linter.unusedVariables false
set_option linter.unusedSimpArgs false
theorem ref_j0 (x : BitVec 32) (k : Nat) : ferryref24_Flags.j0 (k + 1) (x.toNat : Int) false = ferryref24_Flags.j1 k (x.toNat : Int) (addB (decide (x &&& 8#32 = 0#32)) ((x &&& 3#32).toNat : Int) 1024) := by
  have y5 : (Go.bits .and .u32 (x.toNat : Int) 8 = 0) ↔ _ := ref_zero x 8#32
  have z3 : Go.bits .and .u32 (x.toNat : Int) 3 = ((x &&& 3#32).toNat : Int) := bv_and x 3#32
  have s2 : wrap64 ((x &&& 3#32).toNat : Int) = ((x &&& 3#32).toNat : Int) := by
    have := low_small x
    exact w64_id (by omega) (by omega)
  unfold ferryref24_Flags.j0
  dsimp only
  rw [z3, s2, if_neg (by decide)]
  by_cases h5 : x &&& 8#32 = 0#32
  · rw [if_pos (y5.2 h5), decide_eq_true h5, addB_true]
  · rw [if_neg (fun e => h5 (y5.1 e)), decide_eq_false h5, addB_false]
theorem ref_j0t (x : Int) (k : Nat) : ferryref24_Flags.j0 (k + 1) x true = some (0, false) := by
  unfold ferryref24_Flags.j0
  dsimp only
  rw [if_pos rfl]
theorem sum_out_nat (l : Nat) (h : l < 4) (b1 b2 b3 b4 b5 b6 : Bool) : sumB (l : Int) b1 b2 b3 b4 b5 b6 = outB (l : Int) b1 b2 b3 b4 b5 b6 := sum_out ⟨l, h⟩ b1 b2 b3 b4 b5 b6
theorem ref_flags (x : BitVec 32) (k : Nat) : ferryref24_Flags.f (k + 5) (x.toNat : Int) = some (flagsOf x) := by
  have z3 : Go.bits .and .u32 (x.toNat : Int) 3 = ((x &&& 3#32).toNat : Int) := bv_and x 3#32
  have z0 : Go.bits .andNot .u32 (x.toNat : Int) 100235 = ((x &&& ~~~100235#32).toNat : Int) := bv_not x 100235#32
  have z0' : ((x &&& ~~~100235#32).toNat : Int) = 0 ↔ x &&& ~~~100235#32 = 0#32 := bv_zero _
  unfold ferryref24_Flags.f flagsOf
  rw [z3, z0]
  simp only [bv_three]
  by_cases h3 : x &&& 3#32 = 3#32
  · rw [if_pos h3, if_pos h3, ref_j0t _ (k + 4)]
    split <;> rfl
  · rw [if_neg h3, if_neg h3]
    by_cases h0 : x &&& ~~~100235#32 = 0#32
    · have hb : (((x &&& ~~~100235#32).toNat : Int) != 0) = false := bne_eq_false_iff_eq.2 (z0'.2 h0)
      rw [hb, if_pos h0, ref_j0 x (k + 4), ref_j1 x (k + 3), ref_j2 x (k + 2), ref_j3 x (k + 1), ref_j4 x k]
      unfold outOf
      rw [← sum_out_nat _ (low_small x)]
      unfold sumB
      rfl
    · have hb : (((x &&& ~~~100235#32).toNat : Int) != 0) = true := bne_iff_ne.2 (fun e => h0 (z0'.1 e))
      rw [hb, if_neg h0, ref_j0t _ (k + 4)]
end Go.Proofs.YtijghmpapmfndaaDoor.F
