import Derived.Below
import Derived.Deep.Draws
import Derived.Deep.AppendLies
import Derived.Maps.AppendAt
import Derived.OwnWalk
import Derived.Laws.BytesArg
import Derived.Laws.MakeOwn
import Derived.Laws.OwnMore
import Derived.Deep.OwnRows
import Derived.Tactics
import Derived.Lib.ConvBytes
import Derived.Laws.Slices
import Derived.WalkKit
import Derived.KernelRfl
import Derived.RowKit3
import Derived.Deep.LoopGhost
import Derived.Deep.QuietTactic
import Derived.BigQuiet
import Derived.WideLaws
import Derived.Deep.DeepCutAuto
import Derived.Deep.CutBlock
import Derived.Deep.RegionHeld3
import Derived.Laws.Rows
import Derived.Lib.AppendStr
import Derived.ArgAppend
import Derived.Laws.IdiomCopy
import Derived.RowKit
import Derived.OrdersHeld
import Derived.Laws.BitsLemmas
import Derived.Laws.StructEq
import Derived.OwnWalkIn
import Derived.ProofKit
import Derived.Lib.Hide
import Derived.Shelf.RegionOpen
import Derived.Shelf.Abstract
import Derived.Lib.SliceRun
import Derived.WalkSmall
import Derived.Laws.ResultCell
import Derived.Shelf.Spec.SlicesInsertGrow
import Derived.OpenShut
import Derived.Deep.Slices
import Derived.SizedLaws
import Derived.Test.YtlmmipdgedfboaaZF0
import Derived.Test.YtlmmipdgedfboaaYA0Sorted
import Derived.Test.YtlmmipdgedfboaaYA1Slc
import Derived.Test.YtlmmipdgedfboaaYA3HHost0
import Derived.Test.YtlmmipdgedfboaaYA14
import Derived.Test.YtlmmipdgedfboaaYA16
import Derived.Test.YtlmmipdgedfboaaYA18
section
namespace Go.Proofs.Ytlmmipdgedfboaa.F
open Go.RowKit Go.Shelf Go.Proofs.YtlmmipdgedfboaaW.PrintWords Go.Proofs.YtlmmipdgedfboaaW.PrintLast Go.Proofs.YtlmmipdgedfboaaW.PrintMore
set_option linter.unusedVariables false
set_option linter.unusedSimpArgs false
theorem faultS_has {l : List SM} {a need : Int} (h : faultS l a need = 0) : has mpK (a / 16384) l = true := by
  unfold faultS at h
  by_cases h1 : has mpK (a / 16384) l = true
  · exact h1
  · rw [if_neg h1] at h
    omega
theorem mem_setL {m : List SC} (hr : Rises clK m) {a u : Int} {x : SC} (h : x ∈ setL a u m) : x ∈ m ∨ (x = ⟨a, u⟩ ∧ u ≠ 0) := by
  rw [setL_setF hr] at h
  exact mem_setF h
theorem pokes_length : ∀ {n : Nat} (m : List SC) (a v : Nat), (pokes m a v n).length ≤ m.length + n
  | 0, m, _, _ => Nat.le_refl _
  | n + 1, m, a, v => by
    have h1 := pokes_length (n := n) (pokeN m a (v % 256)) (a + 1) (v / 256)
    have h2 := pokeN_length m a (v % 256)
    unfold pokes
    omega
theorem mem_pokes {x : SC} : ∀ {n : Nat} {m : List SC} (h : CellsH m) {a v : Nat}, a + n ≤ 18446744073709551616 → x ∈ pokes m a v n → x ∈ m ∨ ∃ j : Nat, j < n ∧ x.f0 = ((a + j - (a + j) % 8 : Nat) : Int)
  | 0, m, h, a, v, _, hx => Or.inl hx
  | n + 1, m, h, a, v, ha, hx => by
    unfold pokes at hx
    rcases mem_pokes (h.poke (by omega)) (by omega) hx with h1 | ⟨j, hj, h1⟩
    · rcases mem_setL h.mr h1 with h2 | ⟨h2, _⟩
      · exact Or.inl h2
      · exact Or.inr ⟨0, by omega, by rw [h2]; rfl⟩
    · exact Or.inr ⟨j + 1, by omega, by rw [h1]; congr 1; omega⟩
theorem FitH.pokes {l : List SM} {m : List SC} (h : FitH l m) {a n v : Nat} (hn : m.length + n ≤ 131072) (ha : a + n ≤ 18446744073709551616) (hp : ∀ j, j < n → has mpK (((a + j : Nat) : Int) / 16384) l = true) : FitH l (pokes m a v n) := by
  have hc := CellsH.pokes h.cells (v := v) ha
  have hlen := pokes_length (n := n) m a v
  refine ⟨h.lr, h.ln, h.lp, hc.mr, by omega, fun x hx => ?_⟩
  have h1 := hc.mp x hx
  refine ⟨h1.1, h1.2.1, h1.2.2.1, h1.2.2.2.1, h1.2.2.2.2, ?_⟩
  rcases mem_pokes h.cells ha hx with h2 | ⟨j, hj, h2⟩
  · exact (h.mp x h2).2.2.2.2.2
  · rw [h2]
    have h3 := hp j hj
    have e : (((a + j - (a + j) % 8 : Nat) : Int)) / 16384 = ((a + j : Nat) : Int) / 16384 := by omega
    rw [e]
    exact h3
theorem FitH.store {l : List SM} {m : List SC} (h : FitH l m) {a n v : Int} (a0 : 0 ≤ a) (a1 : a < 18446744073709551616) (hm : m.length ≤ 131000) : FitH (storeS l m a n v).1 (storeS l m a n v).2.1 := by
  unfold storeS
  split
  · exact h
  rename_i hn
  split
  · rename_i h3
    obtain ⟨_, h4⟩ := askS_ok a0 a1 (Int.le_refl 0) (by omega) h3
    have h5 := (h4 (n - 1) (by omega) (by omega)).1
    refine h.pokes (by omega) (by omega) (fun j hj => ?_)
    have h6 := faultS_has (h4 (j : Int) (by omega) (by omega)).2
    rwa [show a + (j : Int) = ((a.toNat + j : Nat) : Int) by omega] at h6
  · exact h
end Go.Proofs.Ytlmmipdgedfboaa.F
end
section
namespace Go.Proofs.Ytlmmipdgedfboaa.F
open Go.RowKit Go.Shelf Go.Proofs.YtlmmipdgedfboaaW.PrintWords Go.Proofs.YtlmmipdgedfboaaW.PrintLast Go.Proofs.YtlmmipdgedfboaaW.PrintMore
set_option linter.unusedVariables false
set_option linter.unusedSimpArgs false
def clearS (m : List SC) (a n : Int) : List SC := (m.map (clrC a n)).filter (fun x => !(x.f1 == 0))
theorem clrW_spec {y w : Nat} (hy : y + 8 ≤ 18446744073709551616) (hw : w < 256 ^ 8) (a n : Nat) : ∀ j, j ≤ 8 → ∃ q : Nat, q < 256 ^ 8 ∧ clrW (a : Int) (n : Int) (y : Int) (w : Int) j = (q : Int) ∧ ∀ k, k < 8 → byteAt q k = if k < j ∧ a ≤ y + k ∧ y + k - a < n then 0 else byteAt w k
  | 0, _ => ⟨w, hw, rfl, fun k _ => by rw [if_neg (by omega)]⟩
  | j + 1, hj => by
    obtain ⟨q, hq, e, hb⟩ := clrW_spec hy hw a n j (by omega)
    rw [clrW_succ, e]
    unfold clrStep
    have ea : IntKind.u64.wrap ((y : Int) + (j : Int)) = ((y + j : Nat) : Int) := by rw [u64w]; omega
    rw [ea, withB_eq (by omega) (by omega) (by omega)]
    by_cases hin : (a : Int) ≤ ((y + j : Nat) : Int) ∧ ((y + j : Nat) : Int) - (a : Int) < (n : Int)
    · have hp : 256 ^ 1 * 256 ^ j ≤ (18446744073709551616 : Nat) := by rw [← Nat.pow_add]; exact p256_le (by omega)
      have em : IntKind.u64.wrap (255 * 2 ^ (8 * j)) = (((256 ^ 1 - 1) * 256 ^ j : Nat) : Int) := by
        rw [u64w, show (255 : Int) * 2 ^ (8 * j) = (((256 ^ 1 - 1) * 256 ^ j : Nat) : Int) by rw [← p256 j]; simp]
        have := pos256 j
        omega
      rw [decide_eq_true hin, if_pos rfl, em, clr64 hq (by omega)]
      refine ⟨_, putIn_lt hq (by omega), rfl, fun k hk => ?_⟩
      rw [byteAt_putIn]
      by_cases h1 : k < j
      · rw [if_pos h1, hb k hk]
        by_cases h2 : a ≤ y + k ∧ y + k - a < n
        · rw [if_pos ⟨h1, h2⟩, if_pos ⟨by omega, h2⟩]
        · rw [if_neg (by omega), if_neg (by omega)]
      · rw [if_neg h1]
        by_cases h3 : k < j + 1
        · have hkj : k = j := by omega
          rw [if_pos h3, if_pos (by omega)]
          unfold byteAt
          simp
        · rw [if_neg h3, if_neg (by omega), hb k hk, if_neg (by omega)]
    · rw [decide_eq_false hin, if_neg (by decide)]
      refine ⟨q, hq, rfl, fun k hk => ?_⟩
      rw [hb k hk]
      by_cases h1 : k < j ∧ a ≤ y + k ∧ y + k - a < n
      · rw [if_pos h1, if_pos (by omega)]
      · rw [if_neg h1]
        by_cases hkj : k = j
        · rw [if_neg (by omega)]
        · rw [if_neg (by omega)]
theorem clrC_key (a n : Int) (x : SC) : clK (clrC a n x) = clK x := rfl
theorem clear_rises {m : List SC} (hr : Rises clK m) (a n : Int) : Rises clK (clearS m a n) := rises_filter clK _ (rises_map clK _ (clrC_key a n) hr)
theorem CellsH.clear {m : List SC} (h : CellsH m) (a n : Nat) : CellsH (clearS m (a : Int) (n : Int)) := by
  refine ⟨clear_rises h.mr _ _, fun x hx => ?_⟩
  obtain ⟨h1, h2⟩ := List.mem_filter.1 hx
  obtain ⟨y, hy, rfl⟩ := List.mem_map.1 h1
  have h3 := h.mp y hy
  obtain ⟨Y, hY⟩ : ∃ Y : Nat, y.f0 = (Y : Int) := ⟨y.f0.toNat, by omega⟩
  obtain ⟨W, hW⟩ : ∃ W : Nat, y.f1 = (W : Int) := ⟨y.f1.toNat, by omega⟩
  obtain ⟨q, hq, e, _⟩ := clrW_spec (y := Y) (w := W) (by omega) (by rw [p256_8]; omega) a n 8 (Nat.le_refl _)
  have e2 : (clrC (a : Int) (n : Int) y).f1 = (q : Int) := by
    show clrW _ _ y.f0 y.f1 8 = _
    rw [hY, hW]
    exact e
  rw [p256_8] at hq
  rw [e2] at h2 ⊢
  refine ⟨h3.1, h3.2.1, h3.2.2.1, ?_, by omega⟩
  have : ¬ (q : Int) = 0 := by simpa using h2
  omega
theorem FitH.clear {l : List SM} {m : List SC} (h : FitH l m) {a n : Int} (a0 : 0 ≤ a) (n0 : 0 ≤ n) : FitH l (clearS m a n) := by
  obtain ⟨A, rfl⟩ : ∃ N : Nat, a = (N : Int) := ⟨a.toNat, by omega⟩
  obtain ⟨M, rfl⟩ : ∃ N : Nat, n = (N : Int) := ⟨n.toNat, by omega⟩
  have hc := h.cells.clear A M
  refine ⟨h.lr, h.ln, h.lp, hc.mr, ?_, fun x hx => ?_⟩
  · have h1 : (clearS m (A : Int) (M : Int)).length ≤ m.length := by
      unfold clearS
      refine Nat.le_trans (List.length_filter_le _ _) ?_
      rw [List.length_map]
      exact Nat.le_refl _
    exact Nat.le_trans h1 h.mn
  · have h1 := hc.mp x hx
    refine ⟨h1.1, h1.2.1, h1.2.2.1, h1.2.2.2.1, h1.2.2.2.2, ?_⟩
    obtain ⟨h2, _⟩ := List.mem_filter.1 hx
    obtain ⟨y, hy, rfl⟩ := List.mem_map.1 h2
    exact (h.mp y hy).2.2.2.2.2
end Go.Proofs.Ytlmmipdgedfboaa.F
end
section
namespace Go.Proofs.Ytlmmipdgedfboaa.F
open Go.RowKit Go.Proofs.YtlmmipdgedfboaaW.PrintWords Go.Proofs.YtlmmipdgedfboaaW.PrintLast Go.Proofs.YtlmmipdgedfboaaW.PrintMore
attribute [local go_sem] max2_int min2_int max_two min_two max_three min_three max_four min_four
set_option linter.unusedVariables false
set_option linter.unusedSimpArgs false

theorem eqA30 (d : Nat) (w : World) (x0 y0 : Int) (x1 y1 : Int) :
    (Op.equalIn (d + 2) 30 (.agg #[.int .i64 x0, .int .u64 x1]) (.agg #[.int .i64 y0, .int .u64 y1])).run Try.prog w = .ok (x0 == y0 && (x1 == y1)) w := by
  refine eqA_of Try.underlying30 (by kernel_rfl) ?_
  refine eqf_cons (by rfl) (by go_simp; rfl) (by go_simp; rfl) (by go_simp) ?_
  exact eqf_last (by rfl) (by go_simp; rfl) (by go_simp; rfl) (by go_simp)
end Go.Proofs.Ytlmmipdgedfboaa.F
end
