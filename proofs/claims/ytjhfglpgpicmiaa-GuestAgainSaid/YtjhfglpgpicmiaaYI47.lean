import Derived.Below
import Derived.Deep.Draws
import Derived.Deep.AppendLies
import Derived.Maps.AppendAt
import Derived.OwnWalk
import Derived.Laws.BytesArg
import Derived.Laws.MakeOwn
import Derived.Laws.OwnMore
import Derived.Deep.OwnRows
import Derived.Tactics
import Derived.Lib.ConvBytes
import Derived.Laws.Slices
import Derived.WalkKit
import Derived.KernelRfl
import Derived.RowKit3
import Derived.Deep.LoopGhost
import Derived.Deep.QuietTactic
import Derived.BigQuiet
import Derived.WideLaws
import Derived.Deep.DeepCutAuto
import Derived.Deep.CutBlock
import Derived.Deep.RegionHeld3
import Derived.Laws.Rows
import Derived.Lib.AppendStr
import Derived.ArgAppend
import Derived.Laws.IdiomCopy
import Derived.RowKit
import Derived.OrdersHeld
import Derived.Laws.BitsLemmas
import Derived.Laws.StructEq
import Derived.OwnWalkIn
import Derived.WalkSmall
import Derived.Laws.ResultCell
import Derived.ProofKit
import Derived.Lib.Hide
import Derived.Shelf.RegionOpen
import Derived.Shelf.Abstract
import Derived.Lib.SliceRun
import Derived.Shelf.Spec.SlicesInsertGrow
import Derived.OpenShut
import Derived.Deep.Slices
import Derived.SizedLaws
import Derived.RangeFuncNested
import Derived.RangeFuncBound
import Derived.RangeFuncCalls
import Derived.RangeFuncLeaves
import Derived.RangeFuncWrites
import Derived.TacticsInMore
import Derived.LoopNIn
import Derived.LoopIn
import Derived.Stop.RegionWithIn
import Derived.Test.YtjhfglpgpicmiaaZF0
import Derived.Test.YtjhfglpgpicmiaaYA0
import Derived.Test.YtjhfglpgpicmiaaYA9
import Derived.Test.YtjhfglpgpicmiaaYA11
import Derived.Test.YtjhfglpgpicmiaaYA13
import Derived.Test.YtjhfglpgpicmiaaYA14HGuest4
import Derived.Test.YtjhfglpgpicmiaaYA19
import Derived.Test.YtjhfglpgpicmiaaYC21
import Derived.Test.YtjhfglpgpicmiaaYI45
import Derived.Test.YtjhfglpgpicmiaaYI46FFerrylaw04GuestAgain
section
namespace Go.Proofs.Ytjhfglpgpicmiaa.F
open Go.RowKit Go.Proofs.YtjhfglpgpicmiaaW.PrintWords Go.Proofs.YtjhfglpgpicmiaaW.PrintLast Go.Proofs.YtjhfglpgpicmiaaW.PrintMore
def ferrylaw04_GuestAgain.Pure : Prop :=
  ∀ (l0_0 : List (S55)) (l0_1 : List (S60)) (a0_2 : Int) (l0_3 : List (S39)) (a1 : Int) (a2 : Int) (a3 : Int), (l0_0.length ≤ 9223372036854775807 ∧ ∀ x_ ∈ l0_0, wfS55 x_) → (l0_1.length ≤ 9223372036854775807 ∧ ∀ x_ ∈ l0_1, wfS60 x_) → (0 ≤ a0_2 ∧ a0_2 ≤ 18446744073709551615) → (l0_3.length ≤ 9223372036854775807 ∧ ∀ x_ ∈ l0_3, wfS39 x_) → (0 ≤ a1 ∧ a1 ≤ 4294967295) → (0 ≤ a2 ∧ a2 ≤ 4294967295) → ((-9223372036854775808) ≤ a3 ∧ a3 ≤ 9223372036854775807) → ∃ k, ferrylaw04_GuestAgain.f k l0_0 l0_1 a0_2 l0_3 a1 a2 a3 = some true
end Go.Proofs.Ytjhfglpgpicmiaa.F
end
section
namespace Go.Proofs.Ytjhfglpgpicmiaa.F
open Go.RowKit Go.Shelf Go.Proofs.YtjhfglpgpicmiaaW.PrintWords Go.Proofs.YtjhfglpgpicmiaaW.PrintLast Go.Proofs.YtjhfglpgpicmiaaW.PrintMore
set_option linter.unusedVariables false
theorem again_end {l : List SM} {m : List SC} {b : Int} {p : List SP} (h : FitG l m b p) {a n q : Int} (a0 : 0 ≤ a) (a1 : a < 4294967296) (n0 : 0 ≤ n) (n1 : n < 4294967296) (q0 : -9223372036854775808 ≤ q) (q1 : q ≤ 9223372036854775807) {k : Nat} (k6 : 60 ≤ k ∧ 200000 < k) (hno2 : ∀ x ∈ p, ¬ (a ≤ x.f0 ∧ x.f0 - a < n)) :
    ferrylaw04_GuestAgain.l0 (k + 1) a n q p (p.length : Int) (p.length : Int) l m b p = some true := by
  have hpn := h.pages.pn
  unfold ferrylaw04_GuestAgain.l0
  rw [if_neg (Int.lt_irrefl _), h.map_f a0 a1 n0 n1 q0 q1, Option.bind_some]
  dsimp only
  rcases mapG_cases l m b p a n q with ⟨e1, e2, e3, e4⟩ | ⟨hw, hf, l', e, e1⟩
  · rw [if_neg e4, awake04 _ k6.1]
    rfl
  · have H2 := h.mapped a0 n0 hw hf e
    have hn := wrongG_no n0 hw
    have hlen : (insG (delS p a n) a n q).length = p.length + n.toNat := by
      have hd : delS p a n = p := List.filter_eq_self.2 (fun x hx => by
        have hp := h.pages.pp x hx
        rw [inP_eq hp.1 (by omega) a0, decide_eq_false (hno2 x hx)]
        rfl)
      have hL := lowB_le pgK a (delS p a n)
      unfold insG
      simp only [List.length_append, moreG_length, List.length_take, List.length_drop]
      rw [hd] at hL ⊢
      omega
    rw [e1]
    dsimp only
    rw [if_pos rfl, H2.unmap_f a0 a1 n0 n1, map_unmap h a0 n0 hno2 hw hf e, Option.bind_some]
    dsimp only
    rw [if_pos rfl, h.same _ k6.2, Option.bind_some, if_pos rfl, hlen, if_pos (by unfold wrap64; omega), awake04 _ k6.1]
    rfl
theorem again_l0 {l : List SM} {m : List SC} {b : Int} {p : List SP} (h : FitG l m b p) {a n q : Int} (a0 : 0 ≤ a) (a1 : a < 4294967296) (n0 : 0 ≤ n) (n1 : n < 4294967296) (q0 : -9223372036854775808 ≤ q) (q1 : q ≤ 9223372036854775807) {K : Nat} (hK : 60 ≤ K ∧ 200000 < K) : ∀ (d k i : Nat), i + d = p.length → d + K < k →
    (∀ (j : Nat) (hj : j < p.length), j < i → ¬ (a ≤ p[j].f0 ∧ p[j].f0 - a < n)) → ferrylaw04_GuestAgain.l0 k a n q p (p.length : Int) (i : Int) l m b p = some true
  | 0, k, i, hi, hk, hno => by
    obtain ⟨k, rfl⟩ : ∃ z, k = z + 1 := ⟨k - 1, by clear hno; omega⟩
    obtain rfl : i = p.length := by omega
    exact again_end h a0 a1 n0 n1 q0 q1 ⟨by clear hno; omega, by clear hno; omega⟩ (fun x hx => by
      obtain ⟨j, hj, rfl⟩ := List.getElem_of_mem hx
      exact hno j hj hj)
  | d + 1, k, i, hi, hk, hno => by
    obtain ⟨k, rfl⟩ : ∃ z, k = z + 1 := ⟨k - 1, by clear hno; omega⟩
    have k6 : 60 ≤ k := by clear hno; omega
    have hpn := h.pages.pn
    have hlt : i < p.length := by clear hno; omega
    have hw : wrap64 ((i : Int) + 1) = ((i + 1 : Nat) : Int) := by clear hno hk k6 hK; unfold wrap64; omega
    have hx := h.pages.pp _ (List.getElem_mem hlt)
    have REC := again_l0 h a0 a1 n0 n1 q0 q1 hK d k (i + 1) (by clear hno hx; omega) (by clear hno hx; omega)
    have K6 := Lib.hid k6
    clear hk k6 hK hi hpn
    unfold ferrylaw04_GuestAgain.l0
    rw [if_pos (Int.ofNat_lt.2 hlt), if_pos (Int.natCast_nonneg i), if_pos (Int.ofNat_lt.2 hlt), pg_getR hlt, hw, ref04_in hx.1 (Int.lt_trans hx.2.1 (by decide)) a0]
    by_cases hin : a ≤ p[i].f0 ∧ p[i].f0 - a < n
    · rw [decide_eq_true hin, if_pos rfl, awake04 _ K6.out]
      rfl
    rw [decide_eq_false hin, if_neg (by decide)]
    exact REC (fun j hj hji => by
      rcases Nat.lt_or_ge j i with h1 | h1
      · exact hno j hj h1
      · obtain rfl : j = i := Nat.le_antisymm (Nat.le_of_lt_succ hji) h1
        exact hin)
theorem GuestAgain_pure : ferrylaw04_GuestAgain.Pure := by
  intro l m b p a n q wl wm hb wp ha hn hq
  obtain ⟨k, hk⟩ : ∃ k : Nat, 5000000 < k := ⟨5000001, by omega⟩
  refine ⟨k + 4, ?_⟩
  unfold ferrylaw04_GuestAgain.f
  rw [few04, Option.bind_some]
  cases h1 : few4 l m p with
  | false =>
    rw [if_neg (by decide)]
    unfold ferrylaw04_GuestAgain.j0
    dsimp only
    rw [if_pos rfl, awake04 _ (by omega)]
    rfl
  | true =>
    have hl := few4_len h1
    rw [if_pos rfl, ref04_Fit wl.2 wm.2 hb.1 hb.2 wp.2 (by omega) (by omega) _ (by omega), Option.bind_some]
    cases h2 : gfitB l m b p with
    | false =>
      show ferrylaw04_GuestAgain.j0 (k + 3 + 1) a n q true l m b p = some true
      unfold ferrylaw04_GuestAgain.j0
      dsimp only
      rw [if_pos rfl, awake04 _ (by omega)]
      rfl
    | true =>
      have h := (gfitB_iff wl.2 wm.2 hb.1 hb.2 wp.2).1 h2
      show ferrylaw04_GuestAgain.j0 (k + 3 + 1) a n q false l m b p = some true
      unfold ferrylaw04_GuestAgain.j0
      dsimp only
      rw [if_neg (by decide)]
      have := again_l0 h ha.1 (by omega) hn.1 (by omega) hq.1 hq.2 (K := 300000) (by decide) p.length (k + 3) 0 (Nat.zero_add _) (by omega) (fun j _ hj => absurd hj (Nat.not_lt_zero j))
      rw [show ((0 : Nat) : Int) = 0 from rfl] at this
      exact this
end Go.Proofs.Ytjhfglpgpicmiaa.F
end
