import Derived.Below
import Derived.Deep.Draws
import Derived.Deep.AppendLies
import Derived.Maps.AppendAt
import Derived.OwnWalk
import Derived.Laws.BytesArg
import Derived.Laws.MakeOwn
import Derived.Laws.OwnMore
import Derived.Deep.OwnRows
import Derived.Tactics
import Derived.Lib.ConvBytes
import Derived.Laws.Slices
import Derived.WalkKit
import Derived.KernelRfl
import Derived.RowKit3
import Derived.Deep.LoopGhost
import Derived.Deep.QuietTactic
import Derived.BigQuiet
import Derived.WideLaws
import Derived.Deep.DeepCutAuto
import Derived.Deep.CutBlock
import Derived.Deep.RegionHeld3
import Derived.Laws.Rows
import Derived.Lib.AppendStr
import Derived.ArgAppend
import Derived.Laws.IdiomCopy
import Derived.RowKit
import Derived.OrdersHeld
import Derived.Laws.BitsLemmas
import Derived.Laws.StructEq
import Derived.OwnWalkIn
import Derived.WalkSmall
import Derived.Laws.ResultCell
import Derived.ProofKit
import Derived.Lib.Hide
import Derived.Shelf.RegionOpen
import Derived.Shelf.Abstract
import Derived.Lib.SliceRun
import Derived.Shelf.Spec.SlicesInsertGrow
import Derived.OpenShut
import Derived.Deep.Slices
import Derived.SizedLaws
import Derived.RangeFuncNested
import Derived.RangeFuncBound
import Derived.RangeFuncCalls
import Derived.RangeFuncLeaves
import Derived.RangeFuncWrites
import Derived.TacticsInMore
import Derived.LoopNIn
import Derived.LoopIn
import Derived.Stop.RegionWithIn
import Derived.Test.YtjhfglpgpicmiaaZF0
import Derived.Test.YtjhfglpgpicmiaaYA11
import Derived.Test.YtjhfglpgpicmiaaYA13
import Derived.Test.YtjhfglpgpicmiaaYA19
import Derived.Test.YtjhfglpgpicmiaaYC21
import Derived.Test.YtjhfglpgpicmiaaYH37
import Derived.Test.YtjhfglpgpicmiaaYH39
import Derived.Test.YtjhfglpgpicmiaaYH41PGuest5
import Derived.Test.YtjhfglpgpicmiaaYH42FFerrylaw04GuestElse
section
namespace Go.Proofs.Ytjhfglpgpicmiaa.F
open Go.RowKit Go.Proofs.YtjhfglpgpicmiaaW.PrintWords Go.Proofs.YtjhfglpgpicmiaaW.PrintLast Go.Proofs.YtjhfglpgpicmiaaW.PrintMore
def ferrylaw04_GuestElse.Pure : Prop :=
  ∀ (l0_0 : List (S55)) (l0_1 : List (S60)) (a0_2 : Int) (l0_3 : List (S39)) (a1 : Int) (a2 : Int) (a3 : Int) (a4 : Int), (l0_0.length ≤ 9223372036854775807 ∧ ∀ x_ ∈ l0_0, wfS55 x_) → (l0_1.length ≤ 9223372036854775807 ∧ ∀ x_ ∈ l0_1, wfS60 x_) → (0 ≤ a0_2 ∧ a0_2 ≤ 18446744073709551615) → (l0_3.length ≤ 9223372036854775807 ∧ ∀ x_ ∈ l0_3, wfS39 x_) → (0 ≤ a1 ∧ a1 ≤ 4294967295) → (0 ≤ a2 ∧ a2 ≤ 4294967295) → ((-9223372036854775808) ≤ a3 ∧ a3 ≤ 9223372036854775807) → (0 ≤ a4 ∧ a4 ≤ 255) → ∃ k, ferrylaw04_GuestElse.f k l0_0 l0_1 a0_2 l0_3 a1 a2 a3 a4 = some true
end Go.Proofs.Ytjhfglpgpicmiaa.F
end
section
namespace Go.Proofs.Ytjhfglpgpicmiaa.F
open Go.RowKit Go.Shelf Go.Proofs.YtjhfglpgpicmiaaW.PrintWords Go.Proofs.YtjhfglpgpicmiaaW.PrintLast Go.Proofs.YtjhfglpgpicmiaaW.PrintMore
set_option linter.unusedVariables false
theorem else_j1 {l : List SM} {m : List SC} {b : Int} {p : List SP} {l' : List SM} {m' : List SC} {p' : List SP} (h : FitG l m b p) (h' : FitG l' m' b p') (e1 : l'.filter (fun y => farB b (y.f0 * 16384)) = l.filter (fun y => farB b (y.f0 * 16384))) (e2 : m'.filter (fun c => farB b c.f0) = m.filter (fun c => farB b c.f0)) (k : Nat) (hk : 4000000 < k) :
    ferrylaw04_GuestElse.j1 (k + 1) l m b p l' m' b p' = some true := by
  unfold ferrylaw04_GuestElse.j1
  dsimp only
  have hl := h.h.ln
  have hm := h.h.mn
  have x1 := List.length_filter_le (fun y : SM => farB b (y.f0 * 16384)) l
  have x2 := List.length_filter_le (fun c : SC => farB b c.f0) m
  rw [far04 h k (by omega), Option.bind_some, far04 h' k (by omega), Option.bind_some]
  dsimp only
  rw [e1, e2, ref_Same _ _ _ _ (by omega) (by omega) k (by omega), sameS_refl, Option.bind_some, if_pos rfl, if_pos rfl, awake04 _ (by omega)]
  rfl
theorem GuestElse_pure : ferrylaw04_GuestElse.Pure := by
  intro l m b p a n q kind wl wm hb wp ha hn hq hkind
  obtain ⟨k, hk⟩ : ∃ k : Nat, 5000000 < k := ⟨5000001, by omega⟩
  refine ⟨k + 4, ?_⟩
  unfold ferrylaw04_GuestElse.f
  rw [few04, Option.bind_some]
  cases h1 : few4 l m p with
  | false =>
    rw [if_neg (by decide)]
    unfold ferrylaw04_GuestElse.j0
    dsimp only
    rw [if_pos rfl, awake04 _ (by omega)]
    rfl
  | true =>
    have hl := few4_len h1
    rw [if_pos rfl, ref04_Fit wl.2 wm.2 hb.1 hb.2 wp.2 (by omega) (by omega) _ (by omega), Option.bind_some]
    cases h2 : gfitB l m b p with
    | false =>
      show ferrylaw04_GuestElse.j0 (k + 3 + 1) a n q kind true l m b p = some true
      unfold ferrylaw04_GuestElse.j0
      dsimp only
      rw [if_pos rfl, awake04 _ (by omega)]
      rfl
    | true =>
      have h := (gfitB_iff wl.2 wm.2 hb.1 hb.2 wp.2).1 h2
      show ferrylaw04_GuestElse.j0 (k + 3 + 1) a n q kind false l m b p = some true
      unfold ferrylaw04_GuestElse.j0
      dsimp only
      rw [if_neg (by decide)]
      by_cases c0 : Int.tmod kind 3 = 0
      · have e := far_map h (q := q) ha.1 hn.1
        rw [if_pos c0, h.map_f ha.1 (by omega) hn.1 (by omega) hq.1 hq.2, Option.bind_some]
        exact else_j1 h (h.map (q := q) ha.1 hn.1) e.1 e.2 (k + 2) (by omega)
      rw [if_neg c0]
      by_cases c1 : Int.tmod kind 3 = 1
      · have e := far_unmap h ha.1 hn.1
        rw [if_pos c1, h.unmap_f ha.1 (by omega) hn.1 (by omega), Option.bind_some]
        exact else_j1 h (h.unmap ha.1 hn.1) e.1 e.2 (k + 2) (by omega)
      rw [if_neg c1, guest_Protect_spec l m b h.pages ha.1 (by omega) hn.1 (by omega) hq.1 hq.2 _ (by omega), Option.bind_some]
      have e : (protG l m b p a n q).1 = l ∧ (protG l m b p a n q).2.1 = m := by
        unfold protG
        split
        · exact ⟨rfl, rfl⟩
        · split <;> exact ⟨rfl, rfl⟩
      exact else_j1 h (h.protect (a := a) (q := q) hn.1) (by rw [e.1]) (by rw [e.2]) (k + 2) (by omega)
end Go.Proofs.Ytjhfglpgpicmiaa.F
end
