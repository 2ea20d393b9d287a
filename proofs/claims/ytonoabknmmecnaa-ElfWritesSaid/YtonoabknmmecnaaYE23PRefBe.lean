import Derived.Below
import Derived.Deep.Draws
import Derived.Deep.AppendLies
import Derived.Maps.AppendAt
import Derived.OwnWalk
import Derived.Laws.BytesArg
import Derived.Laws.MakeOwn
import Derived.Laws.OwnMore
import Derived.Deep.OwnRows
import Derived.Tactics
import Derived.Lib.ConvBytes
import Derived.Laws.Slices
import Derived.WalkKit
import Derived.KernelRfl
import Derived.RowKit3
import Derived.Deep.LoopGhost
import Derived.Deep.QuietTactic
import Derived.BigQuiet
import Derived.WideLaws
import Derived.Deep.DeepCutAuto
import Derived.Deep.CutBlock
import Derived.Deep.RegionHeld3
import Derived.Laws.Rows
import Derived.Lib.AppendStr
import Derived.ArgAppend
import Derived.Laws.IdiomCopy
import Derived.RowKit
import Derived.OrdersHeld
import Derived.Laws.BitsLemmas
import Derived.Laws.StructEq
import Derived.Shelf.Strings.Builder1
import Derived.Shelf.Strings.BuilderF
import Derived.Shelf.Strings.BuilderK
import Derived.RangeFuncNested
import Derived.RangeFuncBound
import Derived.RangeFuncCalls
import Derived.RangeFuncLeaves
import Derived.RangeFuncWrites
import Derived.Shelf.Abstract
import Derived.Shelf.RegionOpen
import Derived.OwnWalkIn
import Derived.TacticsInMore
import Derived.LoopNIn
import Derived.LoopIn
import Derived.Lib.Hide
import Derived.Test.YtonoabknmmecnaaZF0
import Derived.Test.YtonoabknmmecnaaYA3HSwap
import Derived.Test.YtonoabknmmecnaaYA13
import Derived.Test.YtonoabknmmecnaaYC17
import Derived.Test.YtonoabknmmecnaaYE20FFerryref01PutBe
section
namespace Go.Proofs.Ytonoabknmmecnaa.F
open Go.RowKit Go.Proofs.YtonoabknmmecnaaW.PrintWords Go.Proofs.YtonoabknmmecnaaW.PrintLast Go.Proofs.YtonoabknmmecnaaW.PrintMore
set_option linter.unusedVariables false
theorem rBys_mk (l : List UInt8) (b : Bool) : bys ⟨l.toArray⟩ b = if b then l.reverse else l := by
  cases b <;> rfl
theorem rPutBe_eq (v : Int) (n : Nat) (hn : n ≤ 8) : swap_PutBe.f v (n : Int) = some ⟨(leBytes v n).reverse.toArray⟩ := by
  unfold swap_PutBe.f swap_PutLe.f
  rw [if_neg (by omega), if_neg (by omega), Int.toNat_natCast]
  simp only [Option.bind_some, rBys_mk, if_true]
def beI (v : Int) (n j : Nat) : List Int := (List.range n).map (fun i => if n - 1 - i < j then v / 256 ^ (n - 1 - i) % 256 else 0)
theorem beI_zero (v : Int) (n : Nat) : beI v n 0 = List.replicate n 0 := by
  apply List.ext_getElem (by simp [beI])
  intro i h1 h2
  simp [beI]
theorem beI_set (v : Int) (n j : Nat) (hj : j < n) : (beI v n j).set (n - 1 - j) (v / 256 ^ j % 256) = beI v n (j + 1) := by
  apply List.ext_getElem (by simp [beI])
  intro i h1 h2
  have hi : i < n := by simpa [beI] using h2
  simp only [beI, List.getElem_set, List.getElem_map, List.getElem_range]
  by_cases e : n - 1 - j = i
  · subst e
    rw [if_pos rfl, if_pos (by omega), show n - 1 - (n - 1 - j) = j by omega]
  · rw [if_neg e]
    by_cases hl : n - 1 - i < j
    · rw [if_pos hl, if_pos (by omega)]
    · rw [if_neg hl, if_neg (by omega)]
theorem strOf_beI (v : Int) (n : Nat) : strOfNums (beI v n n) = ⟨(leBytes v n).reverse.toArray⟩ := by
  unfold strOfNums beI leBytes
  congr 2
  apply List.ext_getElem (by simp)
  intro i h1 h2
  have hi : i < n := by simpa using h2
  have h : n - 1 - i < n := by omega
  simp [h]
theorem byte_step (v : Int) (j : Nat) (h0 : 0 ≤ v) (h1 : v ≤ 18446744073709551615) : Int.tmod (v / 256 ^ j) 256 % 256 = v / 256 ^ j % 256 ∧ IntKind.u64.wrap (Int.tdiv (v / 256 ^ j) 256) = v / 256 ^ (j + 1) := by
  have hq : 0 ≤ v / 256 ^ j := Int.ediv_nonneg h0 (Int.pow_nonneg (by decide))
  have hq1 : v / 256 ^ j ≤ v := Int.ediv_le_self _ h0
  rw [Int.tmod_eq_emod_of_nonneg hq, Int.tdiv_eq_ediv_of_nonneg hq, div256, u64w]
  have hq2 : 0 ≤ v / 256 ^ (j + 1) := Int.ediv_nonneg h0 (Int.pow_nonneg (by decide))
  have hq3 : v / 256 ^ (j + 1) ≤ v := Int.ediv_le_self _ h0
  omega
theorem ref_PutBe_loop (v : Int) (n : Nat) (h0 : 0 ≤ v) (h1 : v ≤ 18446744073709551615) (hn : n ≤ 8) : ∀ (d k j : Nat), j + d = n → d < k → ferryref01_PutBe.l0 k (v / 256 ^ j) (beI v n j) ((d : Int) - 1) = some (strOfNums (beI v n n))
  | 0, k, j, h, hk => by
    obtain ⟨k, rfl⟩ : ∃ m, k = m + 1 := ⟨k - 1, by omega⟩
    obtain rfl : j = n := by omega
    simp only [ferryref01_PutBe.l0]
    rw [if_neg (by omega)]
  | d + 1, k, j, h, hk => by
    obtain ⟨k, rfl⟩ : ∃ m, k = m + 1 := ⟨k - 1, by omega⟩
    have hs := byte_step v j h0 h1
    have ih := ref_PutBe_loop v n h0 h1 hn d k (j + 1) (by omega) (by omega)
    have e0 : ((d + 1 : Nat) : Int) - 1 = (d : Int) := by omega
    simp only [ferryref01_PutBe.l0]
    rw [e0, if_pos (by omega), if_pos (by omega), if_pos (by simp [beI]; omega), hs.1, hs.2, w64_id (by omega) (by omega), Int.toNat_natCast, show d = n - 1 - j by omega, beI_set v n j (by omega), show n - 1 - j = d by omega]
    exact ih
theorem ref_PutBe_spec (v n : Int) (k : Nat) (hk : 11 ≤ k) (h0 : 0 ≤ v) (h1 : v ≤ 18446744073709551615) : ferryref01_PutBe.f k v n = swap_PutBe.f v n := by
  obtain ⟨k, rfl⟩ : ∃ m, k = m + 1 := ⟨k - 1, by omega⟩
  unfold ferryref01_PutBe.f swap_PutBe.f swap_PutLe.f
  by_cases hn : n < 0
  · rw [if_pos hn, if_pos hn]
    simp only [ferryref01_PutBe.j0]
    rfl
  · rw [if_neg hn, if_neg hn]
    simp only [ferryref01_PutBe.j0]
    by_cases hn2 : n > 8
    · rw [if_pos hn2, if_pos (decide_eq_true hn2)]
      rfl
    · rw [if_neg hn2, if_neg (by rw [decide_eq_true_eq]; exact hn2), if_pos (by omega), if_pos (by omega)]
      obtain ⟨m, rfl⟩ : ∃ m : Nat, n = m := ⟨n.toNat, by omega⟩
      rw [Int.toNat_natCast]
      have := ref_PutBe_loop v m h0 h1 (by omega) m k 0 (by omega) (by omega)
      rw [beI_zero, Int.pow_zero, Int.ediv_one] at this
      rw [w64_id (by omega) (by omega), this, strOf_beI]
      simp [bys]
end Go.Proofs.Ytonoabknmmecnaa.F
end
