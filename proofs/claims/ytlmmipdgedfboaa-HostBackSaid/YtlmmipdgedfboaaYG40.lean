import Derived.Below
import Derived.Deep.Draws
import Derived.Deep.AppendLies
import Derived.Maps.AppendAt
import Derived.OwnWalk
import Derived.Laws.BytesArg
import Derived.Laws.MakeOwn
import Derived.Laws.OwnMore
import Derived.Deep.OwnRows
import Derived.Tactics
import Derived.Lib.ConvBytes
import Derived.Laws.Slices
import Derived.WalkKit
import Derived.KernelRfl
import Derived.RowKit3
import Derived.Deep.LoopGhost
import Derived.Deep.QuietTactic
import Derived.BigQuiet
import Derived.WideLaws
import Derived.Deep.DeepCutAuto
import Derived.Deep.CutBlock
import Derived.Deep.RegionHeld3
import Derived.Laws.Rows
import Derived.Lib.AppendStr
import Derived.ArgAppend
import Derived.Laws.IdiomCopy
import Derived.RowKit
import Derived.OrdersHeld
import Derived.Laws.BitsLemmas
import Derived.Laws.StructEq
import Derived.OwnWalkIn
import Derived.WalkSmall
import Derived.Laws.ResultCell
import Derived.ProofKit
import Derived.Lib.Hide
import Derived.Shelf.RegionOpen
import Derived.Shelf.Abstract
import Derived.Lib.SliceRun
import Derived.Shelf.Spec.SlicesInsertGrow
import Derived.OpenShut
import Derived.Deep.Slices
import Derived.SizedLaws
import Derived.Test.YtlmmipdgedfboaaZF0
import Derived.Test.YtlmmipdgedfboaaYA0
import Derived.Test.YtlmmipdgedfboaaYA1HHost0
import Derived.Test.YtlmmipdgedfboaaYA16HHost11
import Derived.Test.YtlmmipdgedfboaaYA17
import Derived.Test.YtlmmipdgedfboaaYC21
import Derived.Test.YtlmmipdgedfboaaYG38
import Derived.Test.YtlmmipdgedfboaaYG39FFerrylaw03HostBack
section
namespace Go.Proofs.Ytlmmipdgedfboaa.F
open Go.RowKit Go.Proofs.YtlmmipdgedfboaaW.PrintWords Go.Proofs.YtlmmipdgedfboaaW.PrintLast Go.Proofs.YtlmmipdgedfboaaW.PrintMore
def ferrylaw03_HostBack.Pure : Prop :=
  ∀ (l0_0 : List (S53)) (l0_1 : List (S55)) (a1 : Int) (a2 : Int) (a3 : Int) (a4 : Int), (l0_0.length ≤ 9223372036854775807 ∧ ∀ x_ ∈ l0_0, wfS53 x_) → (l0_1.length ≤ 9223372036854775807 ∧ ∀ x_ ∈ l0_1, wfS55 x_) → (0 ≤ a1 ∧ a1 ≤ 18446744073709551615) → (0 ≤ a2 ∧ a2 ≤ 255) → (0 ≤ a3 ∧ a3 ≤ 18446744073709551615) → (0 ≤ a4 ∧ a4 ≤ 18446744073709551615) → ∃ k, ferrylaw03_HostBack.f k l0_0 l0_1 a1 a2 a3 a4 = some true
end Go.Proofs.Ytlmmipdgedfboaa.F
end
section
namespace Go.Proofs.Ytlmmipdgedfboaa.F
open Go.RowKit Go.Shelf Go.Proofs.YtlmmipdgedfboaaW.PrintWords Go.Proofs.YtlmmipdgedfboaaW.PrintLast Go.Proofs.YtlmmipdgedfboaaW.PrintMore
set_option linter.unusedVariables false
set_option linter.unusedSimpArgs false
theorem want_bytes {v n : Nat} (h1 : 1 ≤ n) (h7 : n < 8) (hv : v < 18446744073709551616) : Go.bits .and .u64 (v : Int) (IntKind.u64.wrap ((shl .u64 1 (IntKind.u64.wrap (8 * (IntKind.u64.wrap (n : Int))))) - 1)) = ((v % 256 ^ n : Nat) : Int) := by
  have e : IntKind.u64.wrap ((shl .u64 1 (IntKind.u64.wrap (8 * (IntKind.u64.wrap (n : Int))))) - 1) = ((256 ^ n - 1 : Nat) : Int) := by
    rcases (by omega : n = 1 ∨ n = 2 ∨ n = 3 ∨ n = 4 ∨ n = 5 ∨ n = 6 ∨ n = 7) with rfl | rfl | rfl | rfl | rfl | rfl | rfl <;> decide +kernel
  rw [e, and_mask_bytes (by rw [p256_8]; exact hv) (by omega)]
theorem load1 {l : List SM} {m : List SC} {a : Int} (a0 : 0 ≤ a) : loadS l m a 1 = (if (askS l a 1 1 0).1 = 0 then ((pk m a.toNat : Nat) : Int) else 0, (askS l a 1 1 0).1, if (askS l a 1 1 0).1 = 0 then 0 else (askS l a 1 1 0).2) := by
  unfold loadS
  rw [if_neg (show ¬ ((1 : Int) < 1 ∨ (1 : Int) > 8) by decide)]
  have e : leN (1 : Int).toNat (fun i => pk m (a.toNat + i)) = pk m a.toNat := by
    show pk m (a.toNat + 0) + 256 * 0 = _
    simp
  rw [e, show (1 : Int).toNat = 1 from rfl]
  by_cases h : (askS l a 1 1 0).1 = 0
  · rw [if_pos h, if_pos h, if_pos h, h]
  · rw [if_neg h, if_neg h, if_neg h]
theorem back_j2 {l : List SM} {m m' : List SC} (H : FitH l m) (H' : FitH l m') (hm : m.length ≤ 1000000) {a n o v : Nat} (ha : a < 18446744073709551616) (ho : o < 18446744073709551616) (hn : n ≤ 8)
    (hpk : ∀ x, pk m' x = if a ≤ x ∧ x < a + n then byteAt v (x - a) else pk m x) (k : Nat) (hk : 300 ≤ k) :
    ferrylaw03_HostBack.j2 (k + 1) (a : Int) (o : Int) (n : Int) false l m l m' = some true := by
  have hln := H.ln
  rw [ferrylaw03_HostBack.j2, if_neg (by decide), host_Load_spec l H.cells H.lr (by omega) hm (by omega) (by omega) k (by omega), Option.bind_some, host_Load_spec l H'.cells H'.lr (by omega) (by have := H'.mn; omega) (by omega) (by omega) k (by omega), Option.bind_some, load1 (by omega), load1 (by omega)]
  dsimp only
  rw [if_pos (by simp), u64w, u64w, Int.toNat_natCast]
  by_cases hin : ((o : Int) - (a : Int)) % 18446744073709551616 < (n : Int) % 18446744073709551616
  · rw [if_pos hin, H'.fit_f, Option.bind_some, if_pos rfl, awake03_ge k (by omega)]
    rfl
  · have hp : pk m' o = pk m o := by
      rw [hpk, if_neg (by omega)]
    rw [if_neg hin, hp, if_pos rfl, H'.fit_f, Option.bind_some, if_pos rfl, awake03_ge k (by omega)]
    rfl
theorem HostBack_pure : ferrylaw03_HostBack.Pure := by
  intro l m a1 a2 a3 a4 wl wm ha1 ha2 ha3 ha4
  refine ⟨1000, ?_⟩
  unfold ferrylaw03_HostBack.f
  rw [few3_spec, Option.bind_some]
  have hj0 : ∀ k b, 100 ≤ k → b = true → ferrylaw03_HostBack.j0 (k + 1) a1 a2 a3 a4 b l m = some true := fun k b hk hb => by
    rw [ferrylaw03_HostBack.j0, if_pos hb, awake03_ge k (by omega)]
    rfl
  by_cases hf : few3 l m = true
  rotate_left
  · rw [if_neg hf]
    exact hj0 999 true (by omega) rfl
  have hfew : l.length ≤ 70 ∧ m.length ≤ 200 := of_decide_eq_true hf
  rw [if_pos hf, ref_Fit_spec l m ⟨by omega, by omega⟩, Option.bind_some]
  by_cases hfit : fitR l m = true
  rotate_left
  · exact hj0 999 _ (by omega) (by simpa using hfit)
  have H := (fitR_iff wl.2 wm.2).1 hfit
  have hln := H.ln
  obtain ⟨A, rfl⟩ : ∃ N : Nat, a1 = (N : Int) := ⟨a1.toNat, by omega⟩
  obtain ⟨V, rfl⟩ : ∃ N : Nat, a3 = (N : Int) := ⟨a3.toNat, by omega⟩
  obtain ⟨O, rfl⟩ : ∃ N : Nat, a4 = (N : Int) := ⟨a4.toNat, by omega⟩
  obtain ⟨n, hn, n1, n8⟩ : ∃ n : Nat, wrap64 ((wrap64 (Int.tmod a2 8)) + 1) = (n : Int) ∧ 1 ≤ n ∧ n ≤ 8 := by
    refine ⟨(a2 % 8 + 1).toNat, ?_, by omega, by omega⟩
    rw [Int.tmod_eq_emod_of_nonneg ha2.1]
    unfold wrap64
    omega
  rw [hfit, ferrylaw03_HostBack.j0, if_neg (show ¬ ((!true) = true) by decide), hn, host_Store_spec l H.cells H.lr (by omega) (by omega) (by omega) (by omega) (by omega) (by omega), Option.bind_some]
  unfold storeS
  rw [if_neg (show ¬ ((n : Int) < 1 ∨ (n : Int) > 8) by omega)]
  by_cases h0 : (askS l (A : Int) 2 (n : Int).toNat 0).1 = 0
  · rw [if_pos h0]
    dsimp only
    rw [if_pos rfl, Int.toNat_natCast, Int.toNat_natCast, Int.toNat_natCast]
    rw [Int.toNat_natCast] at h0
    obtain ⟨_, hok⟩ := askS_ok (by omega) (by omega) (Int.le_refl 0) (by omega) h0
    have hlast := (hok ((n : Int) - 1) (by omega) (by omega)).1
    have hthere : ∀ j : Int, 0 ≤ j → j < 0 + (n : Int) → (A : Int) + j < 18446744073709551616 ∧ has mpK (((A : Int) + j) / 16384) l = true := fun j j0 j1 => ⟨(hok j j0 j1).1, faultS_has (hok j j0 j1).2⟩
    have H' : FitH l (pokes m A V n) := H.pokes (by omega) (by omega) (fun j hj => by
      have := (hthere (j : Int) (by omega) (by omega)).2
      rwa [show (A : Int) + (j : Int) = ((A + j : Nat) : Int) by omega] at this)
    have hpk := pk_pokes H.cells (v := V) (show A + n ≤ 18446744073709551616 by omega)
    have hplen := pokes_length (n := n) m A V
    have hval : leN n (fun i => pk (pokes m A V n) (A + i)) = V % 256 ^ n := by
      have e := leN_bytes n 0 V
      rw [Nat.pow_zero, Nat.div_one] at e
      rw [← e]
      refine leN_congr (fun i hi => ?_)
      rw [hpk, if_pos (by omega), show A + i - A = 0 + i by omega]
    have hV8 : V < 256 ^ 8 := by rw [p256_8]; omega
    -- the number that is told again
    have hj1 : ∀ k want, 400 ≤ k → want = ((V % 256 ^ n : Nat) : Int) → ferrylaw03_HostBack.j1 (k + 1) (A : Int) (O : Int) (n : Int) want l m l (pokes m A V n) = some true := fun k want hk hw => by
      obtain ⟨k, rfl⟩ : ∃ q, k = q + 1 := ⟨k - 1, by omega⟩
      have hne1 := askS_there (l := l) (a := (A : Int)) (need := 1) (by omega) (r := n) (Int.le_refl 0) hthere
      rw [ferrylaw03_HostBack.j1, host_Load_spec l H'.cells H'.lr (by omega) (by omega) (by omega) (by omega) (k + 1) (by omega), Option.bind_some]
      unfold loadS
      rw [if_neg (show ¬ ((n : Int) < 1 ∨ (n : Int) > 8) by omega), Int.toNat_natCast, Int.toNat_natCast, hval]
      by_cases h1 : (askS l (A : Int) 1 n 0).1 = 0
      · rw [if_pos h1]
        dsimp only
        rw [if_pos rfl, if_pos hw.symm]
        exact back_j2 H H' (by omega) (by omega) (by omega) n8 hpk k (by omega)
      · rw [if_neg h1]
        dsimp only
        rw [if_neg h1, show ((askS l (A : Int) 1 n 0).1 == 1) = false from beq_eq_false_iff_ne.2 hne1]
        exact back_j2 H H' (by omega) (by omega) (by omega) n8 hpk k (by omega)
    by_cases h8 : (n : Int) < 8
    · rw [if_pos h8, if_pos (by rw [u64w, u64w]; omega), want_bytes n1 (by omega) (by omega)]
      exact hj1 998 _ (by omega) rfl
    · obtain rfl : n = 8 := by omega
      rw [if_neg (by omega)]
      exact hj1 998 _ (by omega) (by rw [Nat.mod_eq_of_lt hV8])
  · rw [if_neg h0]
    dsimp only
    obtain ⟨j, j0, j1, hj⟩ := askS_where (Int.le_refl 0) h0
    rw [if_neg h0, ref_Same l m l m (by omega) (by omega) 999 (by omega), Option.bind_some, sameS_refl, if_pos rfl, hj, if_pos (by rw [u64w]; omega), awake03_ge 999 (by omega)]
    rfl
end Go.Proofs.Ytlmmipdgedfboaa.F
end
