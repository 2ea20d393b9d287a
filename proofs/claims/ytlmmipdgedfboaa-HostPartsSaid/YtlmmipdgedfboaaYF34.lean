import Derived.Below
import Derived.Deep.Draws
import Derived.Deep.AppendLies
import Derived.Maps.AppendAt
import Derived.OwnWalk
import Derived.Laws.BytesArg
import Derived.Laws.MakeOwn
import Derived.Laws.OwnMore
import Derived.Deep.OwnRows
import Derived.Tactics
import Derived.Lib.ConvBytes
import Derived.Laws.Slices
import Derived.WalkKit
import Derived.KernelRfl
import Derived.RowKit3
import Derived.Deep.LoopGhost
import Derived.Deep.QuietTactic
import Derived.BigQuiet
import Derived.WideLaws
import Derived.Deep.DeepCutAuto
import Derived.Deep.CutBlock
import Derived.Deep.RegionHeld3
import Derived.Laws.Rows
import Derived.Lib.AppendStr
import Derived.ArgAppend
import Derived.Laws.IdiomCopy
import Derived.RowKit
import Derived.OrdersHeld
import Derived.Laws.BitsLemmas
import Derived.Laws.StructEq
import Derived.OwnWalkIn
import Derived.WalkSmall
import Derived.Laws.ResultCell
import Derived.ProofKit
import Derived.Lib.Hide
import Derived.Shelf.RegionOpen
import Derived.Shelf.Abstract
import Derived.Lib.SliceRun
import Derived.Shelf.Spec.SlicesInsertGrow
import Derived.OpenShut
import Derived.Deep.Slices
import Derived.SizedLaws
import Derived.Test.YtlmmipdgedfboaaZF0
import Derived.Test.YtlmmipdgedfboaaYA16HHost11
import Derived.Test.YtlmmipdgedfboaaYA17
import Derived.Test.YtlmmipdgedfboaaYB20
import Derived.Test.YtlmmipdgedfboaaYF30
import Derived.Test.YtlmmipdgedfboaaYF32
import Derived.Test.YtlmmipdgedfboaaYF33FFerrylaw03HostParts
section
namespace Go.Proofs.Ytlmmipdgedfboaa.F
open Go.RowKit Go.Proofs.YtlmmipdgedfboaaW.PrintWords Go.Proofs.YtlmmipdgedfboaaW.PrintLast Go.Proofs.YtlmmipdgedfboaaW.PrintMore
def ferrylaw03_HostParts.Pure : Prop :=
  ∀ (l0_0 : List (S53)) (l0_1 : List (S55)) (a1 : Int) (a2 : Int) (a3 : Int), (l0_0.length ≤ 9223372036854775807 ∧ ∀ x_ ∈ l0_0, wfS53 x_) → (l0_1.length ≤ 9223372036854775807 ∧ ∀ x_ ∈ l0_1, wfS55 x_) → (0 ≤ a1 ∧ a1 ≤ 18446744073709551615) → (0 ≤ a2 ∧ a2 ≤ 65535) → (0 ≤ a3 ∧ a3 ≤ 18446744073709551615) → ∃ k, ferrylaw03_HostParts.f k l0_0 l0_1 a1 a2 a3 = some true
end Go.Proofs.Ytlmmipdgedfboaa.F
end
section
namespace Go.Proofs.Ytlmmipdgedfboaa.F
open Go.RowKit Go.Shelf Go.Proofs.YtlmmipdgedfboaaW.PrintWords Go.Proofs.YtlmmipdgedfboaaW.PrintLast Go.Proofs.YtlmmipdgedfboaaW.PrintMore
set_option linter.unusedVariables false
set_option linter.unusedSimpArgs false
theorem parts_j3 {l : List SM} {m : List SC} (H : FitH l m) (hm : m.length ≤ 200) {x3 : Nat} (h3 : x3 < 18446744073709551616) (t : Nat) (b : Bool) (h1 : b = true → t = 0) (h2 : b = false → t = pk m x3) (k : Nat) (hk : 300 ≤ k) :
    ferrylaw03_HostParts.j3 (k + 1) (x3 : Int) (t : Int) b l m = some true := by
  rw [ferrylaw03_HostParts.j3]
  cases b with
  | true =>
    rw [if_pos rfl, if_pos (by have := h1 rfl; omega), awake03_ge k (by omega)]
    rfl
  | false =>
    rw [if_neg (by decide), ref_Peek l H.cells (by omega) h3 k (by omega), Option.bind_some, if_pos (by rw [h2 rfl]), awake03_ge k (by omega)]
    rfl
theorem clearS_length (m : List SC) (a n : Int) : (clearS m a n).length ≤ m.length := by
  unfold clearS
  refine Nat.le_trans (List.length_filter_le _ _) ?_
  rw [List.length_map]
  exact Nat.le_refl _
theorem parts_j2 {l : List SM} {m : List SC} (H : FitH l m) (hm : m.length ≤ 200) {a x n : Nat} (ha : a < 18446744073709551616) (hx : x < 18446744073709551616) (hn : n ≤ 65535) (k : Nat) (hk : 400 ≤ k) :
    ferrylaw03_HostParts.j2 (k + 1) (a : Int) (n : Int) (x : Int) l m = some true := by
  obtain ⟨k, rfl⟩ : ∃ q, k = q + 1 := ⟨k - 1, by omega⟩
  have hw : IntKind.u64.wrap (n : Int) = (n : Int) := by rw [u64w]; omega
  have hc := H.cells.clear a n
  have hlen := clearS_length m (a : Int) (n : Int)
  rw [ferrylaw03_HostParts.j2, hw, host_Clear_spec l m (by omega), Option.bind_some]
  dsimp only
  rw [ref_Peek l hc (by omega) hx (k + 1) (by omega), Option.bind_some, pk_clear H.cells a n hx, u64w]
  by_cases hge : (x : Int) ≥ (a : Int)
  · rw [if_pos hge]
    by_cases h2 : x - a < n
    · rw [decide_eq_true (by omega), if_pos (by omega)]
      exact parts_j3 H hm hx 0 true (fun _ => rfl) (fun h => by cases h) k (by omega)
    · rw [decide_eq_false (by omega), if_neg (by omega)]
      exact parts_j3 H hm hx _ false (fun h => by cases h) (fun _ => rfl) k (by omega)
  · rw [if_neg hge, if_neg (by omega)]
    exact parts_j3 H hm hx _ false (fun h => by cases h) (fun _ => rfl) k (by omega)
theorem parts_l0 {l : List SM} {m : List SC} (H : FitH l m) (hm : m.length ≤ 200) {a x n : Nat} (ha : a < 18446744073709551616) (hx : x < 18446744073709551616) (hn : n ≤ 65535)
    (hok : ∀ j : Int, 0 ≤ j → j < 0 + ((8 : Nat) : Int) → (a : Int) + j < 18446744073709551616 ∧ faultS l ((a : Int) + j) 1 = 0) : ∀ (d k i : Nat), i + d = 8 → 500 + d ≤ k →
    ferrylaw03_HostParts.l0 (k + 1) (a : Int) (n : Int) (x : Int) ((leN 8 (fun i => pk m (a + i)) : Nat) : Int) (i : Int) l m = some true
  | 0, k, i, hi, hk => by
    rw [ferrylaw03_HostParts.l0, if_neg (by omega)]
    obtain ⟨k, rfl⟩ : ∃ q, k = q + 1 := ⟨k - 1, by omega⟩
    exact parts_j2 H hm ha hx hn k (by omega)
  | d + 1, k, i, hi, hk => by
    obtain ⟨k, rfl⟩ : ∃ q, k = q + 1 := ⟨k - 1, by omega⟩
    have h7 := (hok 7 (by omega) (by omega)).1
    have e1 : IntKind.u64.wrap ((a : Int) + (i : Int)) = ((a + i : Nat) : Int) := by rw [u64w]; omega
    have e2 : IntKind.u64.wrap (8 * (i : Int)) = ((8 * i : Nat) : Int) := by rw [u64w]; omega
    have e3 : IntKind.u64.wrap ((i : Int) + 1) = ((i + 1 : Nat) : Int) := by rw [u64w]; omega
    have hask : askS l ((a + i : Nat) : Int) 1 (1 : Int).toNat 0 = (0, 0) := askS_all (by omega) (by omega) (fun j j0 j1 => by
      have j2 : j < 0 + ((1 : Nat) : Int) := j1
      obtain rfl : j = 0 := by omega
      have := hok (i : Int) (by omega) (by omega)
      rw [show ((a + i : Nat) : Int) + 0 = (a : Int) + (i : Int) by omega]
      exact this)
    have hlt := leN_lt 8 (fun i => pk m (a + i)) (fun j _ => pk_lt m (a + j))
    have hpk := pk_lt m (a + i)
    have hv : Go.bits .and .u64 (shr .u64 ((leN 8 (fun i => pk m (a + i)) : Nat) : Int) ((8 * i : Nat) : Int)) 255 = ((pk m (a + i) : Nat) : Int) := by
      have hb := byteAt_leN 8 (fun i => pk m (a + i)) (fun j _ => pk_lt m (a + j)) i (by omega)
      generalize leN 8 (fun i => pk m (a + i)) = V at hlt hb ⊢
      have hd := Nat.div_le_self V (256 ^ i)
      rw [shr_bytes _ _ (by omega), show (255 : Int) = ((256 ^ 1 - 1 : Nat) : Int) by decide, and_mask_bytes (by omega) (by decide), Nat.pow_one]
      rw [← hb]
      rfl
    have hl1 : ((leN (1 : Int).toNat (fun j => pk m (((a + i : Nat) : Int).toNat + j)) : Nat) : Int) = ((pk m (a + i) : Nat) : Int) := by
      show ((pk m (((a + i : Nat) : Int).toNat + 0) + 256 * 0 : Nat) : Int) = _
      rw [Int.toNat_natCast]
      simp
    have hln := H.ln
    rw [ferrylaw03_HostParts.l0, if_pos (by omega), e1, e2, e3, host_Load_spec l H.cells H.lr (by omega) (by omega) (by omega) (by omega) (k + 1) (by omega), Option.bind_some]
    unfold loadS
    rw [if_neg (show ¬ ((1 : Int) < 1 ∨ (1 : Int) > 8) by decide), hask, if_pos (show ((0 : Int), (0 : Int)).1 = 0 from rfl), hl1]
    dsimp only
    rw [if_pos rfl, if_pos (by omega), hv, if_pos rfl]
    exact parts_l0 H hm ha hx hn hok d k (i + 1) (by omega) (by omega)
theorem HostParts_pure : ferrylaw03_HostParts.Pure := by
  intro l m a1 a2 a3 wl wm ha1 ha2 ha3
  refine ⟨1000, ?_⟩
  unfold ferrylaw03_HostParts.f
  rw [few3_spec, Option.bind_some]
  have hj0 : ∀ k b, 100 ≤ k → b = true → ferrylaw03_HostParts.j0 (k + 1) a1 a2 a3 b l m = some true := fun k b hk hb => by
    rw [ferrylaw03_HostParts.j0, if_pos hb, awake03_ge k (by omega)]
    rfl
  by_cases hf : few3 l m = true
  rotate_left
  · rw [if_neg hf]
    exact hj0 999 true (by omega) rfl
  have hfew : l.length ≤ 70 ∧ m.length ≤ 200 := of_decide_eq_true hf
  rw [if_pos hf, ref_Fit_spec l m ⟨by omega, by omega⟩, Option.bind_some]
  by_cases hfit : fitR l m = true
  rotate_left
  · exact hj0 999 _ (by omega) (by simpa using hfit)
  have H := (fitR_iff wl.2 wm.2).1 hfit
  obtain ⟨A, rfl⟩ : ∃ N : Nat, a1 = (N : Int) := ⟨a1.toNat, by omega⟩
  obtain ⟨M, rfl⟩ : ∃ N : Nat, a2 = (N : Int) := ⟨a2.toNat, by omega⟩
  obtain ⟨X, rfl⟩ : ∃ N : Nat, a3 = (N : Int) := ⟨a3.toNat, by omega⟩
  have hln := H.ln
  rw [hfit, ferrylaw03_HostParts.j0, if_neg (show ¬ ((!true) = true) by decide), host_Load_spec l H.cells H.lr (by omega) (by omega) (by omega) (by omega) 999 (by omega), Option.bind_some]
  unfold loadS
  rw [if_neg (show ¬ ((8 : Int) < 1 ∨ (8 : Int) > 8) by decide)]
  by_cases h0 : (askS l (A : Int) 1 (8 : Int).toNat 0).1 = 0
  · rw [if_pos h0]
    dsimp only
    rw [if_pos rfl, Int.toNat_natCast]
    obtain ⟨_, hok⟩ := askS_ok (by omega) (by omega) (Int.le_refl 0) (by decide) h0
    exact parts_l0 H hfew.2 (by omega) (by omega) (by omega) hok 8 998 0 (by omega) (by omega)
  · rw [if_neg h0]
    dsimp only
    rw [if_neg h0]
    exact parts_j2 H hfew.2 (by omega) (by omega) (by omega) 998 (by omega)
end Go.Proofs.Ytlmmipdgedfboaa.F
end
