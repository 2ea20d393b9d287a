import Derived.Below
import Derived.Deep.Draws
import Derived.Deep.AppendLies
import Derived.Maps.AppendAt
import Derived.OwnWalk
import Derived.Laws.BytesArg
import Derived.Laws.MakeOwn
import Derived.Laws.OwnMore
import Derived.Deep.OwnRows
import Derived.Tactics
import Derived.Lib.ConvBytes
import Derived.Laws.Slices
import Derived.WalkKit
import Derived.KernelRfl
import Derived.RowKit3
import Derived.Deep.LoopGhost
import Derived.Deep.QuietTactic
import Derived.BigQuiet
import Derived.WideLaws
import Derived.Deep.DeepCutAuto
import Derived.Deep.CutBlock
import Derived.Deep.RegionHeld3
import Derived.Laws.Rows
import Derived.Lib.AppendStr
import Derived.ArgAppend
import Derived.Laws.IdiomCopy
import Derived.RowKit
import Derived.OrdersHeld
import Derived.Laws.BitsLemmas
import Derived.Laws.StructEq
import Derived.Shelf.Strings.Builder1
import Derived.Shelf.Strings.BuilderF
import Derived.Shelf.Strings.BuilderK
import Derived.RangeFuncNested
import Derived.RangeFuncBound
import Derived.RangeFuncCalls
import Derived.RangeFuncLeaves
import Derived.RangeFuncWrites
import Derived.Shelf.Abstract
import Derived.Shelf.RegionOpen
import Derived.OwnWalkIn
import Derived.TacticsInMore
import Derived.LoopNIn
import Derived.LoopIn
import Derived.Lib.Hide
import Derived.WalkLawsBesides
import Derived.WalkSmall
import Derived.Laws.ResultCell
import Derived.RangeFuncRecord
import Derived.ProofKit
import Derived.Deep.RegionWith
import Derived.Defers
import Derived.Recover
import Derived.Tactics2
import Derived.Lib.Builder
import Derived.Lib.UnsafeStr
import Derived.StillTailTactics
import Derived.OpenShut
import Derived.Deep.Slices
import Derived.SizedLaws
import Derived.Test.YtonoabknmmecnaaZF0
import Derived.Test.YtonoabknmmecnaaYA0
import Derived.Test.YtonoabknmmecnaaYA3HSwap
import Derived.Test.YtonoabknmmecnaaYA4
import Derived.Test.YtonoabknmmecnaaYA5HElf2
import Derived.Test.YtonoabknmmecnaaYA7HElf4
import Derived.Test.YtonoabknmmecnaaYA13
import Derived.Test.YtonoabknmmecnaaYC17
import Derived.Test.YtonoabknmmecnaaYE19FFerryref13Prots
import Derived.Test.YtonoabknmmecnaaYH27
import Derived.Test.YtonoabknmmecnaaYH29FFerrylaw13ElfReads
section
namespace Go.Proofs.Ytonoabknmmecnaa.F
open Go.RowKit Go.Proofs.YtonoabknmmecnaaW.PrintWords Go.Proofs.YtonoabknmmecnaaW.PrintLast Go.Proofs.YtonoabknmmecnaaW.PrintMore
def ferrylaw13_ElfReads.Pure : Prop :=
  ∀ (a0 : ByteArray) (a1 : Int), (a0.size ≤ 140737488351232) → (0 ≤ a1 ∧ a1 ≤ 4294967295) → ∃ k, ferrylaw13_ElfReads.f k a0 a1 = some true
end Go.Proofs.Ytonoabknmmecnaa.F
end
section
namespace Go.Proofs.Ytonoabknmmecnaa.F
open Go.RowKit Go.Proofs.YtonoabknmmecnaaW.PrintWords Go.Proofs.YtonoabknmmecnaaW.PrintLast Go.Proofs.YtonoabknmmecnaaW.PrintMore
set_option linter.unusedVariables false
set_option linter.unusedSimpArgs false
theorem ebeOf_append (a b : List UInt8) : beOf (a ++ b) = beOf a * 256 ^ b.length + beOf b := by
  unfold beOf
  rw [List.foldl_append, ebeOf_cons_aux]
  rfl
end Go.Proofs.Ytonoabknmmecnaa.F
end
section
namespace Go.Proofs.Ytonoabknmmecnaa.F
open Go.RowKit Go.Proofs.YtonoabknmmecnaaW.PrintWords Go.Proofs.YtonoabknmmecnaaW.PrintLast Go.Proofs.YtonoabknmmecnaaW.PrintMore
set_option linter.unusedVariables false
theorem bt_bys (s : ByteArray) (i : Nat) (h : i < s.size) : bt s (i : Int) = ((bys s false)[i]'(by rw [bys_length]; exact h)).toNat := by
  unfold bt
  rw [Int.toNat_natCast, dif_pos h]
  rfl
theorem beOf_step (n b : Int) (h0 : 0 ≤ n) (h1 : n < 256 ^ 7) (h2 : 0 ≤ b) (h3 : b ≤ 255) : IntKind.u64.wrap (IntKind.u64.wrap (n * 256) + IntKind.u64.wrap b) = n * 256 + b := by
  have e : (256 : Int) ^ 7 = 72057594037927936 := by rfl
  rw [e] at h1
  rw [u64w, u64w, u64w]
  omega
theorem pow_le7 (n : Nat) (h : n ≤ 7) : (256 : Int) ^ n ≤ 256 ^ 7 := by
  have z : 256 ^ n ≤ 256 ^ 7 := Nat.pow_le_pow_right (by omega) h
  have y := Int.ofNat_le.mpr z
  rw [Int.natCast_pow, Int.natCast_pow] at y
  exact y
theorem ref_Be_loop (s : ByteArray) (hs : s.size ≤ 8) : ∀ (d k i : Nat), i + d = s.size → d < k → ferryref01_Be.l0 k s (beOf ((bys s false).take i)) (i : Int) = some (beOf (bys s false))
  | 0, k, i, h, hk => by
    obtain ⟨k, rfl⟩ : ∃ m, k = m + 1 := ⟨k - 1, by omega⟩
    simp only [ferryref01_Be.l0]
    rw [if_neg (by omega), List.take_of_length_le (by rw [bys_length]; omega)]
  | d + 1, k, i, h, hk => by
    obtain ⟨k, rfl⟩ : ∃ m, k = m + 1 := ⟨k - 1, by omega⟩
    have hb := beOf_bound ((bys s false).take i)
    have hp := pow_le7 ((bys s false).take i).length (by rw [List.length_take]; omega)
    have hr := bt_range s (i : Int)
    have ih := ref_Be_loop s hs d k (i + 1) (by omega) (by omega)
    have hi : i < s.size := by omega
    simp only [ferryref01_Be.l0]
    rw [if_pos (by omega), if_pos (by omega), beOf_step _ _ hb.1 (by omega) hr.1 hr.2, w64_id (by omega) (by omega)]
    have e : beOf ((bys s false).take i) * 256 + bt s (i : Int) = beOf ((bys s false).take (i + 1)) := by
      rw [List.take_succ_eq_append_getElem (by rw [bys_length]; exact hi), beOf_snoc, bt_bys s i hi]
    rw [e]
    exact ih
theorem ref_Be_spec (s : ByteArray) (k : Nat) (hk : 9 ≤ k) : ferryref01_Be.f k s = swap_Be.f s := by
  unfold ferryref01_Be.f swap_Be.f swap_number.f
  by_cases h : (s.size : Int) > 8
  · rw [if_pos h, if_pos h]
    rfl
  · rw [if_neg h, if_neg h]
    exact ref_Be_loop s (by omega) s.size k 0 (by omega) (by omega)
end Go.Proofs.Ytonoabknmmecnaa.F
end
section
namespace Go.Proofs.Ytonoabknmmecnaa.F
open Go.RowKit Go.Proofs.YtonoabknmmecnaaW.PrintWords Go.Proofs.YtonoabknmmecnaaW.PrintLast Go.Proofs.YtonoabknmmecnaaW.PrintMore
set_option linter.unusedVariables false
set_option linter.unusedSimpArgs false
theorem Ev_to {α : Type} {g : Nat → Option α} {a b : α} (h : Ev g a) (e : a = b) : Ev g b := e ▸ h
theorem prots_ev {f : Int} (h0 : 0 ≤ f) (h1 : f ≤ 4294967295) : Ev (fun k => ferryref13_Prots.f k f) (protsOf f) := by
  obtain ⟨n, rfl⟩ := Int.eq_ofNat_of_zero_le h0
  have b4 : Go.bits .and .u32 (n : Int) 4 = ((n &&& 4 : Nat) : Int) := (bits_nat32 n 4 (by omega) (by decide)).1
  have b2 : Go.bits .and .u32 (n : Int) 2 = ((n &&& 2 : Nat) : Int) := (bits_nat32 n 2 (by omega) (by decide)).1
  have b1 : Go.bits .and .u32 (n : Int) 1 = ((n &&& 1 : Nat) : Int) := (bits_nat32 n 1 (by omega) (by decide)).1
  have b7 : Go.bits .and .u32 (n : Int) 7 = ((n &&& 7 : Nat) : Int) := (bits_nat32 n 7 (by omega) (by decide)).1
  have m7 : n &&& 7 = n % 8 := Nat.and_two_pow_sub_one_eq_mod n 3
  have m4 : n &&& 4 = (n % 8) &&& 4 := by rw [← m7, Nat.and_assoc]; rfl
  have m2 : n &&& 2 = (n % 8) &&& 2 := by rw [← m7, Nat.and_assoc]; rfl
  have m1 : n &&& 1 = (n % 8) &&& 1 := by rw [← m7, Nat.and_assoc]; rfl
  unfold ferryref13_Prots.f protsOf elf_Prots.f
  rw [b7, b4, m4, m7]
  have h8 : n % 8 < 8 := Nat.mod_lt _ (by decide)
  generalize hq : n % 8 = q at h8 m1 m2
  have hj : ∀ x, Ev (fun k => ferryref13_Prots.j0 k (n : Int) x) (if ((q &&& 2 : Nat) : Int) = 0 then (if ((q &&& 1 : Nat) : Int) = 0 then x else wrap64 (x + 4)) else (if ((q &&& 1 : Nat) : Int) = 0 then wrap64 (x + 2) else wrap64 (wrap64 (x + 2) + 4))) := by
    intro x
    refine Ev.step (fun _ => rfl) ?_
    simp only [ferryref13_Prots.j0, b2, b1, m2, m1]
    split <;> split <;> exact Ev.now _
  have h0' := hj 0
  have h1' := hj (0 + 1)
  clear hj
  rcases (show q = 0 ∨ q = 1 ∨ q = 2 ∨ q = 3 ∨ q = 4 ∨ q = 5 ∨ q = 6 ∨ q = 7 by omega) with rfl | rfl | rfl | rfl | rfl | rfl | rfl | rfl
  · exact Ev.congr (fun k => if_pos (by decide)) (Ev_to h0' (by decide +kernel))
  · exact Ev.congr (fun k => if_pos (by decide)) (Ev_to h0' (by decide +kernel))
  · exact Ev.congr (fun k => if_pos (by decide)) (Ev_to h0' (by decide +kernel))
  · exact Ev.congr (fun k => if_pos (by decide)) (Ev_to h0' (by decide +kernel))
  · exact Ev.congr (fun k => if_neg (by decide)) (Ev_to h1' (by decide +kernel))
  · exact Ev.congr (fun k => if_neg (by decide)) (Ev_to h1' (by decide +kernel))
  · exact Ev.congr (fun k => if_neg (by decide)) (Ev_to h1' (by decide +kernel))
  · exact Ev.congr (fun k => if_neg (by decide)) (Ev_to h1' (by decide +kernel))
end Go.Proofs.Ytonoabknmmecnaa.F
end
