import Derived.Below
import Derived.Deep.Draws
import Derived.Deep.AppendLies
import Derived.Maps.AppendAt
import Derived.OwnWalk
import Derived.Laws.BytesArg
import Derived.Laws.MakeOwn
import Derived.Laws.OwnMore
import Derived.Deep.OwnRows
import Derived.Tactics
import Derived.Lib.ConvBytes
import Derived.Laws.Slices
import Derived.WalkKit
import Derived.KernelRfl
import Derived.RowKit3
import Derived.Deep.LoopGhost
import Derived.Deep.QuietTactic
import Derived.BigQuiet
import Derived.WideLaws
import Derived.Deep.DeepCutAuto
import Derived.Deep.CutBlock
import Derived.Deep.RegionHeld3
import Derived.Laws.Rows
import Derived.Lib.AppendStr
import Derived.ArgAppend
import Derived.Laws.IdiomCopy
import Derived.RowKit
import Derived.OrdersHeld
import Derived.Laws.BitsLemmas
import Derived.Laws.StructEq
import Derived.OwnWalkIn
import Derived.WalkSmall
import Derived.Laws.ResultCell
import Derived.ProofKit
import Derived.Lib.Hide
import Derived.Shelf.RegionOpen
import Derived.Shelf.Abstract
import Derived.Lib.SliceRun
import Derived.Shelf.Spec.SlicesInsertGrow
import Derived.OpenShut
import Derived.Deep.Slices
import Derived.SizedLaws
import Derived.RangeFuncNested
import Derived.RangeFuncBound
import Derived.RangeFuncCalls
import Derived.RangeFuncLeaves
import Derived.RangeFuncWrites
import Derived.TacticsInMore
import Derived.LoopNIn
import Derived.LoopIn
import Derived.Stop.RegionWithIn
import Derived.Test.YtjhfglpgpicmiaaZF0
import Derived.Test.YtjhfglpgpicmiaaYA11
import Derived.Test.YtjhfglpgpicmiaaYA13
import Derived.Test.YtjhfglpgpicmiaaYA16HGuest7
import Derived.Test.YtjhfglpgpicmiaaYA19
import Derived.Test.YtjhfglpgpicmiaaYC21
import Derived.Test.YtjhfglpgpicmiaaYG33
import Derived.Test.YtjhfglpgpicmiaaYG34FFerrylaw04GuestParts
section
namespace Go.Proofs.Ytjhfglpgpicmiaa.F
open Go.RowKit Go.Proofs.YtjhfglpgpicmiaaW.PrintWords Go.Proofs.YtjhfglpgpicmiaaW.PrintLast Go.Proofs.YtjhfglpgpicmiaaW.PrintMore
def ferrylaw04_GuestParts.Pure : Prop :=
  ∀ (l0_0 : List (S55)) (l0_1 : List (S60)) (a0_2 : Int) (l0_3 : List (S39)) (a1 : Int) (a2 : Int) (a3 : Int) (a4 : Bool) (a5 : Int), (l0_0.length ≤ 9223372036854775807 ∧ ∀ x_ ∈ l0_0, wfS55 x_) → (l0_1.length ≤ 9223372036854775807 ∧ ∀ x_ ∈ l0_1, wfS60 x_) → (0 ≤ a0_2 ∧ a0_2 ≤ 18446744073709551615) → (l0_3.length ≤ 9223372036854775807 ∧ ∀ x_ ∈ l0_3, wfS39 x_) → (0 ≤ a1 ∧ a1 ≤ 4294967295) → (0 ≤ a2 ∧ a2 ≤ 4294967295) → ((-9223372036854775808) ≤ a3 ∧ a3 ≤ 9223372036854775807) → (0 ≤ a5 ∧ a5 ≤ 4294967295) → ∃ k, ferrylaw04_GuestParts.f k l0_0 l0_1 a0_2 l0_3 a1 a2 a3 a4 a5 = some true
end Go.Proofs.Ytjhfglpgpicmiaa.F
end
section
namespace Go.Proofs.Ytjhfglpgpicmiaa.F
open Go.RowKit Go.Shelf Go.Proofs.YtjhfglpgpicmiaaW.PrintWords Go.Proofs.YtjhfglpgpicmiaaW.PrintLast Go.Proofs.YtjhfglpgpicmiaaW.PrintMore
set_option linter.unusedVariables false
structure PartsG (l : List SM) (m : List SC) (b : Int) (p : List SP) (l' : List SM) (m' : List SC) (p' : List SP) (a n r : Int) : Prop where
  h : FitG l m b p
  h' : FitG l' m' b p'
  prot : ∀ k, 0 ≤ k → k < 1048576 → protP p' k = if a ≤ k ∧ k - a < n then r else protP p k
  pk : ∀ t, 0 ≤ t → t < 4294967296 → pk m' (b + t).toNat = if a ≤ t / 4096 ∧ t / 4096 - a < n then 0 else pk m (b + t).toNat
theorem peek04 {l : List SM} {m : List SC} {b : Int} {p : List SP} {t : Int} (h : FitG l m b p) (t0 : 0 ≤ t) (t1 : t < 4294967296) (k : Nat) (hk : 200000 < k) : ferryref03_Peek.f k l m (b + t) = some ((pk m (b + t).toNat : Nat) : Int) := by
  have h0 := h.base.b0
  have h1 := h.base.b1
  have h2 := h.h.mn
  have := ref_Peek l h.h.cells (by omega) (a := (b + t).toNat) (by omega) k (by omega)
  rwa [show (((b + t).toNat : Nat) : Int) = b + t by omega] at this
theorem parts_end {l : List SM} {m : List SC} {b : Int} {p : List SP} {l' : List SM} {m' : List SC} {p' : List SP} {a n q r t : Int} {away : Bool} (G : PartsG l m b p l' m' p' a n r) (hr : (away = true ∧ r = -1) ∨ (away = false ∧ r = q)) (a0 : 0 ≤ a) (t0 : 0 ≤ t) (t1 : t < 4294967296) {k : Nat} (k6 : 60 ≤ k ∧ 200000 < k) :
    ferrylaw04_GuestParts.l0 (k + 1 + 1) a n q away t p (p.length : Int) (p.length : Int) l m b p l' m' b p' = some true := by
  have hp := G.h.pages.pn
  have hp' := G.h'.pages.pn
  have hk6 : 200000 < k + 1 := Nat.lt_succ_of_lt k6.2
  unfold ferrylaw04_GuestParts.l0
  rw [if_neg (Int.lt_irrefl _), ref04_Place G.h.base t0 t1, Option.bind_some]
  have e : Int.tdiv t 4096 % 4294967296 = t / 4096 := by rw [Int.tdiv_eq_ediv_of_nonneg t0]; omega
  rw [e]
  have hpg := G.prot (t / 4096) (by omega) (by omega)
  have hpk := G.pk t t0 t1
  have IN : (a ≤ t / 4096 ∧ t / 4096 - a < n) → ferrylaw04_GuestParts.j3 (k + 1) q away (t / 4096) (b + t) true l m b p l' m' b p' = some true := fun hin => by
    rw [if_pos hin] at hpg hpk
    unfold ferrylaw04_GuestParts.j3
    dsimp only
    rw [if_pos rfl]
    rcases hr with ⟨rfl, rfl⟩ | ⟨rfl, rfl⟩
    · rw [if_pos rfl, ref04_Prot l' m' b p' (by omega) _ _ (by omega), Option.bind_some, hpg, if_pos (by decide), peek04 G.h' t0 t1 _ k6.2, hpk, Option.bind_some, if_pos (show ((0 : Nat) : Int) = 0 from rfl), awake04 _ k6.1]
      rfl
    · rw [if_neg (by decide), ref04_Prot l' m' b p' (by omega) _ _ (by omega), Option.bind_some, hpg, if_pos rfl, peek04 G.h' t0 t1 _ k6.2, hpk, Option.bind_some, if_pos (show ((0 : Nat) : Int) = 0 from rfl), awake04 _ k6.1]
      rfl
  have OUT : ¬ (a ≤ t / 4096 ∧ t / 4096 - a < n) → ferrylaw04_GuestParts.j3 (k + 1) q away (t / 4096) (b + t) false l m b p l' m' b p' = some true := fun hin => by
    rw [if_neg hin] at hpg hpk
    unfold ferrylaw04_GuestParts.j3
    dsimp only
    rw [if_neg (by decide), ref04_Prot l' m' b p' (by omega) _ _ (by omega), Option.bind_some, ref04_Prot l m b p (by omega) _ _ (by omega), Option.bind_some, hpg, if_pos rfl, peek04 G.h' t0 t1 _ k6.2, Option.bind_some, peek04 G.h t0 t1 _ k6.2, Option.bind_some, hpk, if_pos rfl, awake04 _ k6.1]
    rfl
  by_cases c1 : t / 4096 ≥ a
  · rw [if_pos c1, show (t / 4096 - a) % 4294967296 = t / 4096 - a by omega]
    by_cases c2 : t / 4096 - a < n
    · rw [decide_eq_true c2]
      exact IN ⟨c1, c2⟩
    rw [decide_eq_false c2]
    exact OUT (fun e => c2 e.2)
  rw [if_neg c1]
  exact OUT (fun e => c1 e.1)
theorem parts_l0 {l : List SM} {m : List SC} {b : Int} {p : List SP} {l' : List SM} {m' : List SC} {p' : List SP} {a n q r t : Int} {away : Bool} (G : PartsG l m b p l' m' p' a n r) (hr : (away = true ∧ r = -1) ∨ (away = false ∧ r = q)) (a0 : 0 ≤ a) (t0 : 0 ≤ t) (t1 : t < 4294967296) {K : Nat} (hK : 60 ≤ K ∧ 200000 < K) : ∀ (d k i : Nat), i + d = p.length → d + K + 1 < k →
    ferrylaw04_GuestParts.l0 k a n q away t p (p.length : Int) (i : Int) l m b p l' m' b p' = some true
  | 0, k, i, hi, hk => by
    obtain ⟨k, rfl⟩ : ∃ z, k = z + 1 + 1 := ⟨k - 2, by omega⟩
    obtain rfl : i = p.length := by omega
    exact parts_end G hr a0 t0 t1 ⟨by omega, by omega⟩
  | d + 1, k, i, hi, hk => by
    obtain ⟨k, rfl⟩ : ∃ z, k = z + 1 := ⟨k - 1, by omega⟩
    have hp := G.h.pages.pn
    have hp' := G.h'.pages.pn
    have hlt : i < p.length := by omega
    have hpk : p'.length < k := by omega
    have hw : wrap64 ((i : Int) + 1) = ((i + 1 : Nat) : Int) := by clear hk hK hpk; unfold wrap64; omega
    have hx := G.h.pages.pp _ (List.getElem_mem hlt)
    have hm := protP_mem G.h.pages.pr (List.getElem_mem hlt)
    have hg := G.prot p[i].f0 hx.1 hx.2.1
    have REC := parts_l0 G hr a0 t0 t1 hK d k (i + 1) (by omega) (by omega)
    have hp6 : p'.length ≤ 1000000 := by omega
    clear hk hK hi hp hp'
    unfold ferrylaw04_GuestParts.l0
    rw [if_pos (Int.ofNat_lt.2 hlt), if_pos (Int.natCast_nonneg i), if_pos (Int.ofNat_lt.2 hlt), pg_getR hlt, hw, ref04_Prot l' m' b p' hp6 _ _ hpk, Option.bind_some]
    by_cases c1 : p[i].f0 < a
    · rw [if_neg (fun e => absurd e.1 (Int.not_le.2 c1)), hm] at hg
      rw [if_pos c1, if_pos hg]
      exact REC
    rw [if_neg c1]
    by_cases c2 : (p[i].f0 - a) % 4294967296 ≥ n
    · rw [if_neg (by omega), hm] at hg
      rw [if_pos c2, if_pos hg]
      exact REC
    rw [if_neg c2]
    exact REC
theorem GuestParts_pure : ferrylaw04_GuestParts.Pure := by
  intro l m b p a n q away t wl wm hb wp ha hn hq ht
  obtain ⟨k, hk⟩ : ∃ k : Nat, 5000000 < k := ⟨5000001, by omega⟩
  refine ⟨k + 4, ?_⟩
  unfold ferrylaw04_GuestParts.f
  rw [few04, Option.bind_some]
  cases h1 : few4 l m p with
  | false =>
    rw [if_neg (by decide)]
    unfold ferrylaw04_GuestParts.j0
    dsimp only
    rw [if_pos rfl, awake04 _ (by omega)]
    rfl
  | true =>
    have hl := few4_len h1
    rw [if_pos rfl, ref04_Fit wl.2 wm.2 hb.1 hb.2 wp.2 (by omega) (by omega) _ (by omega), Option.bind_some]
    cases h2 : gfitB l m b p with
    | false =>
      show ferrylaw04_GuestParts.j0 (k + 3 + 1) a n q away t true l m b p = some true
      unfold ferrylaw04_GuestParts.j0
      dsimp only
      rw [if_pos rfl, awake04 _ (by omega)]
      rfl
    | true =>
      have h := (gfitB_iff wl.2 wm.2 hb.1 hb.2 wp.2).1 h2
      show ferrylaw04_GuestParts.j0 (k + 3 + 1) a n q away t false l m b p = some true
      unfold ferrylaw04_GuestParts.j0
      dsimp only
      rw [if_neg (by decide)]
      cases away with
      | true =>
        rw [if_pos rfl, h.unmap_f ha.1 (by omega) hn.1 (by omega), Option.bind_some]
        show ferrylaw04_GuestParts.j1 (k + 2 + 1) a n q true t _ _ _ _ _ _ _ _ _ = some true
        unfold ferrylaw04_GuestParts.j1
        dsimp only
        have hu := h.unmap ha.1 hn.1
        rw [unmapG_eq h ha.1 hn.1] at hu ⊢
        by_cases hw : wrongG a n 0 = true
        · rw [if_pos hw, if_neg (show ¬ (22 : Int) = 0 by decide), h.same _ (by omega), Option.bind_some, if_pos rfl, awake04 _ (by omega)]
          rfl
        rw [if_neg hw] at hu ⊢
        have hn2 := wrongG_no hn.1 hw
        rw [if_pos rfl]
        exact parts_l0 (K := 300000) ⟨h, hu, fun k _ _ => prot_del h ha.1 hn.1 k, fun t t0 t1 => pk_unmap h ha.1 hn.1 hn2.2.1 t0 t1⟩ (.inl ⟨rfl, rfl⟩) ha.1 ht.1 (by omega) (by decide) p.length (k + 2) 0 (Nat.zero_add _) (by omega)
      | false =>
        rw [if_neg (by decide), h.map_f ha.1 (by omega) hn.1 (by omega) hq.1 hq.2, Option.bind_some]
        show ferrylaw04_GuestParts.j1 (k + 2 + 1) a n q false t _ _ _ _ _ _ _ _ _ = some true
        unfold ferrylaw04_GuestParts.j1
        dsimp only
        rcases mapG_cases l m b p a n q with ⟨e1, e2, e3, e4⟩ | ⟨hw, hf, l', e, e1⟩
        · rw [if_neg e4, e1, e2, e3, h.same _ (by omega), Option.bind_some, if_pos rfl, awake04 _ (by omega)]
          rfl
        · have hn2 := wrongG_no hn.1 hw
          have hu := h.mapped ha.1 hn.1 hw hf e
          rw [e1]
          dsimp only
          rw [if_pos rfl]
          exact parts_l0 (K := 300000) ⟨h, hu, fun k _ _ => prot_ins h ha.1 hn.1 hn2 hf k, fun t t0 t1 => pk_map h ha.1 hn.1 hn2.2.1 t0 t1⟩ (.inr ⟨rfl, rfl⟩) ha.1 ht.1 (by omega) (by decide) p.length (k + 2) 0 (Nat.zero_add _) (by omega)
end Go.Proofs.Ytjhfglpgpicmiaa.F
end
