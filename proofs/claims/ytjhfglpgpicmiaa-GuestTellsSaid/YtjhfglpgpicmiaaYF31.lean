import Derived.Below
import Derived.Deep.Draws
import Derived.Deep.AppendLies
import Derived.Maps.AppendAt
import Derived.OwnWalk
import Derived.Laws.BytesArg
import Derived.Laws.MakeOwn
import Derived.Laws.OwnMore
import Derived.Deep.OwnRows
import Derived.Tactics
import Derived.Lib.ConvBytes
import Derived.Laws.Slices
import Derived.WalkKit
import Derived.KernelRfl
import Derived.RowKit3
import Derived.Deep.LoopGhost
import Derived.Deep.QuietTactic
import Derived.BigQuiet
import Derived.WideLaws
import Derived.Deep.DeepCutAuto
import Derived.Deep.CutBlock
import Derived.Deep.RegionHeld3
import Derived.Laws.Rows
import Derived.Lib.AppendStr
import Derived.ArgAppend
import Derived.Laws.IdiomCopy
import Derived.RowKit
import Derived.OrdersHeld
import Derived.Laws.BitsLemmas
import Derived.Laws.StructEq
import Derived.OwnWalkIn
import Derived.WalkSmall
import Derived.Laws.ResultCell
import Derived.ProofKit
import Derived.Lib.Hide
import Derived.Shelf.RegionOpen
import Derived.Shelf.Abstract
import Derived.Lib.SliceRun
import Derived.Shelf.Spec.SlicesInsertGrow
import Derived.OpenShut
import Derived.Deep.Slices
import Derived.SizedLaws
import Derived.RangeFuncNested
import Derived.RangeFuncBound
import Derived.RangeFuncCalls
import Derived.RangeFuncLeaves
import Derived.RangeFuncWrites
import Derived.TacticsInMore
import Derived.LoopNIn
import Derived.LoopIn
import Derived.Stop.RegionWithIn
import Derived.Test.YtjhfglpgpicmiaaZF0
import Derived.Test.YtjhfglpgpicmiaaYA7Twice
import Derived.Test.YtjhfglpgpicmiaaYA9
import Derived.Test.YtjhfglpgpicmiaaYA11
import Derived.Test.YtjhfglpgpicmiaaYA13
import Derived.Test.YtjhfglpgpicmiaaYA19
import Derived.Test.YtjhfglpgpicmiaaYD22FFerryref04Place
import Derived.Test.YtjhfglpgpicmiaaYF24
import Derived.Test.YtjhfglpgpicmiaaYF26
import Derived.Test.YtjhfglpgpicmiaaYF27HGuest3
import Derived.Test.YtjhfglpgpicmiaaYF28FApiPage60
import Derived.Test.YtjhfglpgpicmiaaYF29FGuestSame
import Derived.Test.YtjhfglpgpicmiaaYF30FFerrylaw04GuestTells
section
namespace Go.Proofs.Ytjhfglpgpicmiaa.F
open Go.RowKit Go.Proofs.YtjhfglpgpicmiaaW.PrintWords Go.Proofs.YtjhfglpgpicmiaaW.PrintLast Go.Proofs.YtjhfglpgpicmiaaW.PrintMore
def ferrylaw04_GuestTells.Pure : Prop :=
  ∀ (l0_0 : List (S55)) (l0_1 : List (S60)) (a0_2 : Int) (l0_3 : List (S39)) (l1_0 : List (S55)) (l1_1 : List (S60)) (a1_2 : Int) (l1_3 : List (S39)) (a2 : Int) (a3 : Int), (l0_0.length ≤ 9223372036854775807 ∧ ∀ x_ ∈ l0_0, wfS55 x_) → (l0_1.length ≤ 9223372036854775807 ∧ ∀ x_ ∈ l0_1, wfS60 x_) → (0 ≤ a0_2 ∧ a0_2 ≤ 18446744073709551615) → (l0_3.length ≤ 9223372036854775807 ∧ ∀ x_ ∈ l0_3, wfS39 x_) → (l1_0.length ≤ 9223372036854775807 ∧ ∀ x_ ∈ l1_0, wfS55 x_) → (l1_1.length ≤ 9223372036854775807 ∧ ∀ x_ ∈ l1_1, wfS60 x_) → (0 ≤ a1_2 ∧ a1_2 ≤ 18446744073709551615) → (l1_3.length ≤ 9223372036854775807 ∧ ∀ x_ ∈ l1_3, wfS39 x_) → (0 ≤ a2 ∧ a2 ≤ 4294967295) → (0 ≤ a3 ∧ a3 ≤ 4294967295) → ∃ k, ferrylaw04_GuestTells.f k l0_0 l0_1 a0_2 l0_3 l1_0 l1_1 a1_2 l1_3 a2 a3 = some true
end Go.Proofs.Ytjhfglpgpicmiaa.F
end
section
namespace Go.Proofs.Ytjhfglpgpicmiaa.F
open Go.RowKit Go.Shelf Go.Proofs.YtjhfglpgpicmiaaW.PrintWords Go.Proofs.YtjhfglpgpicmiaaW.PrintLast Go.Proofs.YtjhfglpgpicmiaaW.PrintMore
set_option linter.unusedVariables false
set_option linter.unusedSimpArgs false
section
variable {l : List SM} {m : List SC} {b : Int} {p : List SP} {g : Bool}
end
theorem eqP_loop (l l' : List SP) (e : l.length = l'.length) (hl : l.length ≤ 1000000) : ∀ (k i : Nat), i ≤ l.length → l.length - i < k → api_Page_60.l0 k l l' (l.length : Int) (i : Int) = some (eqL eqPg (l.drop i) (l'.drop i))
  | 0, i, _, h => by omega
  | k + 1, i, hi, h => by
    unfold api_Page_60.l0
    by_cases hlt : i < l.length
    · have hw : wrap64 ((i : Int) + 1) = ((i + 1 : Nat) : Int) := by unfold wrap64; omega
      rw [if_pos (by omega), if_pos (by omega), if_pos (by omega), if_pos (by omega), pg_getR hlt, pg_getR (by omega), hw, eqP_loop l l' e hl k (i + 1) hlt (by omega), List.drop_eq_getElem_cons hlt, List.drop_eq_getElem_cons (show i < l'.length by omega)]
      rw [show eqL eqPg (l[i] :: l.drop (i + 1)) (l'[i] :: l'.drop (i + 1)) = (eqPg l[i] l'[i] && eqL eqPg (l.drop (i + 1)) (l'.drop (i + 1))) from rfl]
      unfold eqPg
      cases (l[i].f0 == l'[i].f0) <;> cases (l[i].f1 == l'[i].f1) <;> rfl
    rw [if_neg (by omega), List.drop_eq_nil_of_le (by omega), List.drop_eq_nil_of_le (by omega)]
    rfl
theorem eqP_f (l l' : List SP) (hl : l.length ≤ 1000000) (k : Nat) (hk : l.length < k) : api_Page_60.f k l l' = some (eqL eqPg l l') := by
  unfold api_Page_60.f
  by_cases e : l.length = l'.length
  · rw [if_pos (by omega)]
    exact eqP_loop l l' e hl k 0 (Nat.zero_le _) (by omega)
  rw [if_neg (by omega)]
  cases h : eqL eqPg l l' with
  | false => rfl
  | true => exact absurd (eqL_length h) e
theorem guest_Same_spec (l : List SM) (m : List SC) (b : Int) (p : List SP) (l' : List SM) (m' : List SC) (b' : Int) (p' : List SP) (hl : l.length ≤ 1000000) (hm : m.length ≤ 1000000) (hp : p.length ≤ 1000000) (k : Nat) (hk : l.length + m.length + p.length + 2 < k) :
    guest_Same.f k l m b p l' m' b' p' = some (sameG l m b p l' m' b' p') := by
  unfold guest_Same.f sameG
  by_cases hb : b = b'
  · rw [if_pos hb, decide_eq_true hb, host_Same_spec l m l' m' hl hm k (by omega), Option.bind_some, eqP_f p p' hp k (by omega)]
    cases sameS l m l' m' <;> rfl
  rw [if_neg hb, decide_eq_false hb, Bool.false_and, Bool.and_false]
end Go.Proofs.Ytjhfglpgpicmiaa.F
end
section
namespace Go.Proofs.Ytjhfglpgpicmiaa.F
open Go.RowKit Go.Proofs.YtjhfglpgpicmiaaW.PrintWords Go.Proofs.YtjhfglpgpicmiaaW.PrintLast Go.Proofs.YtjhfglpgpicmiaaW.PrintMore
attribute [local go_sem] max2_int min2_int max_two min_two max_three min_three max_four min_four
attribute [local go_sem] cell_twice
set_option linter.unusedVariables false
set_option linter.unusedSimpArgs false

def ferryref04_Unmap.T5 : Bool × List (List Nat × List Nat) := (true, [([], []), ([0], [0]), ([], []), ([], []), ([3], [3]), ([2, 4], [2, 4]), ([], []), ([6], [6]), ([7], [7]), ([1, 5, 8, 5], [1, 5, 8]), ([0, 1, 2, 3, 4, 5, 6, 7, 8, 9], []), ([10, 9, 9, 0, 1, 2, 3, 4, 5, 6, 7, 8, 9], [9, 10])])
def ferryref04_Unmap.B5 : List Nat := [0, 1, 0, 0, 8, 28, 0, 64, 192, 511, 1023, 2047]
theorem ferryref04_Unmap.tab5 : rtab .any (opsOf Try.f18 5) = ferryref04_Unmap.T5 := by kernel_rfl
theorem ferryref04_Unmap.bits5 : waitsOk ferryref04_Unmap.T5.2 ferryref04_Unmap.B5 = true := by kernel_rfl
end Go.Proofs.Ytjhfglpgpicmiaa.F
end
section
namespace Go.Proofs.Ytjhfglpgpicmiaa.F
open Go.RowKit Go.Shelf Go.Proofs.YtjhfglpgpicmiaaW.PrintWords Go.Proofs.YtjhfglpgpicmiaaW.PrintLast Go.Proofs.YtjhfglpgpicmiaaW.PrintMore
set_option linter.unusedVariables false
theorem GuestTells_pure : ferrylaw04_GuestTells.Pure := by
  intro l m b p l' m' b' p' a2 a3 wl wm hb wp wl' wm' hb' wp' h2 h3
  obtain ⟨k, hk⟩ : ∃ k : Nat, 5000000 < k := ⟨5000001, by omega⟩
  refine ⟨k + 4, ?_⟩
  unfold ferrylaw04_GuestTells.f
  rw [few04, Option.bind_some]
  cases h1 : few4 l m p with
  | false =>
    rw [if_neg (by decide)]
    unfold ferrylaw04_GuestTells.j0
    dsimp only
    rw [if_pos rfl, awake04 _ (by omega)]
    rfl
  | true =>
    have hl := few4_len h1
    rw [if_pos rfl, few04, Option.bind_some]
    cases h2 : few4 l' m' p' with
    | false =>
      show ferrylaw04_GuestTells.j0 (k + 3 + 1) a2 a3 true l m b p l' m' b' p' = some true
      unfold ferrylaw04_GuestTells.j0
      dsimp only
      rw [if_pos rfl, awake04 _ (by omega)]
      rfl
    | true =>
      show ferrylaw04_GuestTells.j0 (k + 3 + 1) a2 a3 false l m b p l' m' b' p' = some true
      unfold ferrylaw04_GuestTells.j0 guest_Fit.f
      dsimp only
      rw [if_neg (by decide), if_pos ⟨by omega, by omega, by omega⟩, Option.bind_some, ref04_Fit wl.2 wm.2 hb.1 hb.2 wp.2 (by omega) (by omega) _ (by omega), Option.bind_some, bne_self_eq_false, if_neg (by decide), guest_Same_spec l m b p l' m' b' p' (by omega) (by omega) (by omega) _ (by omega), Option.bind_some, ref04_Same l m b p l' m' b' p' (by omega) (by omega) (by omega) _ (by omega), Option.bind_some, bne_self_eq_false, if_neg (by decide), guest_Same_spec l m b p l m b p (by omega) (by omega) (by omega) _ (by omega), Option.bind_some, sameG_refl]
      show ferrylaw04_GuestTells.j1 (k + 2 + 1) a2 a3 false l m b p = some true
      unfold ferrylaw04_GuestTells.j1
      dsimp only
      rw [if_neg (by decide), ref04_Fit wl.2 wm.2 hb.1 hb.2 wp.2 (by omega) (by omega) _ (by omega), Option.bind_some]
      cases h3 : gfitB l m b p with
      | false =>
        rw [if_neg (by decide), awake04 _ (by omega)]
        rfl
      | true =>
        have h := (gfitB_iff wl.2 wm.2 hb.1 hb.2 wp.2).1 h3
        rw [if_pos rfl, prot_f l m b (by omega) h.pages.pr, Option.bind_some, ref04_Prot l m b p (by omega) _ _ (by omega), Option.bind_some, if_pos rfl]
        unfold guest_Place.f ferryref04_Place.f
        rw [Option.bind_some, Option.bind_some, if_pos rfl, awake04 _ (by omega)]
        rfl
end Go.Proofs.Ytjhfglpgpicmiaa.F
end
