import Derived.Below
import Derived.Deep.Draws
import Derived.Deep.AppendLies
import Derived.Maps.AppendAt
import Derived.OwnWalk
import Derived.Laws.BytesArg
import Derived.Laws.MakeOwn
import Derived.Laws.OwnMore
import Derived.Deep.OwnRows
import Derived.Tactics
import Derived.Lib.ConvBytes
import Derived.Laws.Slices
import Derived.WalkKit
import Derived.KernelRfl
import Derived.RowKit3
import Derived.Deep.LoopGhost
import Derived.Deep.QuietTactic
import Derived.BigQuiet
import Derived.WideLaws
import Derived.Deep.DeepCutAuto
import Derived.Deep.CutBlock
import Derived.Deep.RegionHeld3
import Derived.Laws.Rows
import Derived.Lib.AppendStr
import Derived.ArgAppend
import Derived.Laws.IdiomCopy
import Derived.RowKit
import Derived.OrdersHeld
import Derived.Laws.BitsLemmas
import Derived.Laws.StructEq
import Derived.OwnWalkIn
import Derived.ProofKit
import Derived.Lib.Hide
import Derived.Shelf.RegionOpen
import Derived.Shelf.Abstract
import Derived.Lib.SliceRun
import Derived.WalkSmall
import Derived.Laws.ResultCell
import Derived.Shelf.Spec.SlicesInsertGrow
import Derived.OpenShut
import Derived.Deep.Slices
import Derived.SizedLaws
import Derived.Test.YtlmmipdgedfboaaZF0
import Derived.Test.YtlmmipdgedfboaaYA0Sorted
import Derived.Test.YtlmmipdgedfboaaYA1Slc
import Derived.Test.YtlmmipdgedfboaaYA3HHost0
import Derived.Test.YtlmmipdgedfboaaYA7HHost3
import Derived.Test.YtlmmipdgedfboaaYA8HHost4
import Derived.Test.YtlmmipdgedfboaaYA9
import Derived.Test.YtlmmipdgedfboaaYA14
import Derived.Test.YtlmmipdgedfboaaYA16
import Derived.Test.YtlmmipdgedfboaaYB32FFerryref03Map
import Derived.Test.YtlmmipdgedfboaaYB35PHost3
section
namespace Go.Proofs.Ytlmmipdgedfboaa.F
open Go.RowKit Go.Shelf Go.Proofs.YtlmmipdgedfboaaW.PrintWords Go.Proofs.YtlmmipdgedfboaaW.PrintLast Go.Proofs.YtlmmipdgedfboaaW.PrintMore
set_option linter.unusedVariables false
set_option linter.unusedSimpArgs false
theorem ref_Map_l2 (l : List SM) (m : List SC) (hl : l.length ≤ 1000000) {a p : Int} (N : Nat) (hN : N ≤ 1000000) (i : Nat) (o : List SM) (ho : o.length ≤ 1000000) : ∀ (d k j : Nat), j + d = N →
    ferryref03_Map.l2 (k + d + 1) a (N : Int) p (o ++ moreP a j p) (i : Int) (j : Int) l m = if i < l.length then ferryref03_Map.l1 k a (N : Int) p (o ++ moreP a N p ++ (l.drop i).take 1) true ((i + 1 : Nat) : Int) l m else ferryref03_Map.l1 k a (N : Int) p (o ++ moreP a N p) true (wrap64 ((i : Int) + 1)) l m
  | 0, k, j, hj => by
    obtain rfl : j = N := by omega
    unfold ferryref03_Map.l2
    have hlen : (o ++ moreP a j p).length = o.length + j := by rw [List.length_append, moreP_length]
    rw [if_neg (by omega)]
    by_cases hi : i < l.length
    · have hw : wrap64 ((i : Int) + 1) = ((i + 1 : Nat) : Int) := by unfold wrap64; omega
      rw [if_pos (by omega), if_pos (by omega), if_pos (by omega), if_pos hi, mp_getR hi, hw, List.drop_eq_getElem_cons hi]
      rfl
    · rw [if_neg (by omega), if_neg hi]
  | d + 1, k, j, hj => by
    have hlen : (o ++ moreP a j p).length = o.length + j := by rw [List.length_append, moreP_length]
    have hw : IntKind.u64.wrap ((j : Int) + 1) = ((j + 1 : Nat) : Int) := by rw [u64w]; omega
    rw [show k + (d + 1) + 1 = (k + d + 1) + 1 by omega]
    conv => lhs; unfold ferryref03_Map.l2
    rw [if_pos (by omega), if_pos (by omega), hw, List.append_assoc, ← moreP_succ]
    exact ref_Map_l2 l m hl N hN i o ho d k (j + 1) (by omega)
theorem ref_Map_l1_true (l : List SM) (m : List SC) (hl : l.length ≤ 1000000) {a n p : Int} : ∀ (k i : Nat) (o : List SM), i ≤ l.length → 2 * (l.length + 1 - i) < k → o.length ≤ 2000000 + i →
    ferryref03_Map.l1 k a n p o true (i : Int) l m = some (o ++ l.drop i, m, 0)
  | 0, i, _, _, h, _ => by omega
  | 1, i, _, hi, h, _ => by omega
  | k + 2, i, o, hi, h, ho => by
    unfold ferryref03_Map.l1
    rw [if_pos (by omega), if_pos rfl]
    unfold ferryref03_Map.j2
    have hw : wrap64 ((i : Int) + 1) = ((i + 1 : Nat) : Int) := by unfold wrap64; omega
    rw [if_neg (show ¬ (false = true) by decide), hw]
    by_cases hlt : i < l.length
    · rw [if_pos (by omega), if_pos (by omega), if_pos (by omega), mp_getR hlt, ref_Map_l1_true l m hl k (i + 1) _ hlt (by omega) (by simp; omega), List.drop_eq_getElem_cons hlt, List.append_assoc]
      rfl
    · rw [if_neg (by omega), List.drop_eq_nil_of_le (by omega), List.append_nil]
      obtain ⟨k, rfl⟩ : ∃ q, k = q + 1 := ⟨k - 1, by omega⟩
      unfold ferryref03_Map.l1
      rw [if_neg (by omega)]
theorem ref_Map_l1 (l : List SM) (m : List SC) (hl : l.length ≤ 1000000) (hr : Rises mpK l) {a p : Int} (N : Nat) (hN : N ≤ 1000000) (hna : ∀ x ∈ l, x.f0 ≠ a) : ∀ (k i : Nat), i ≤ lowB mpK a l → 2 * (l.length + 1 - i) + N + 6 < k →
    ferryref03_Map.l1 k a (N : Int) p (l.take i) false (i : Int) l m = some (l.take (lowB mpK a l) ++ moreP a N p ++ l.drop (lowB mpK a l), m, 0)
  | 0, i, _, h => by omega
  | 1, i, hi, h => by omega
  | k + 2, i, hi, h => by
    have hL := lowB_le mpK a l
    have hlen : (l.take i).length ≤ i := List.length_take_le _ _
    have hw : wrap64 ((i : Int) + 1) = ((i + 1 : Nat) : Int) := by unfold wrap64; omega
    have INS : i = lowB mpK a l → ferryref03_Map.l2 k a (N : Int) p (l.take i) (i : Int) 0 l m = some (l.take (lowB mpK a l) ++ moreP a N p ++ l.drop (lowB mpK a l), m, 0) := by
      intro e
      obtain ⟨q, rfl⟩ : ∃ q, k = q + N + 1 := ⟨k - N - 1, by omega⟩
      have h2 := ref_Map_l2 l m hl (a := a) (p := p) N hN i (l.take i) (by omega) N q 0 (by omega)
      rw [show moreP a 0 p = [] from rfl, List.append_nil] at h2
      refine h2.trans ?_
      have hlen2 : (l.take i ++ moreP a N p).length ≤ i + N := by rw [List.length_append, moreP_length]; omega
      by_cases hlt : i < l.length
      · rw [if_pos hlt, ref_Map_l1_true l m hl q (i + 1) _ hlt (by omega) (by rw [List.length_append]; have : ((l.drop i).take 1).length ≤ 1 := List.length_take_le _ _; omega), e, List.append_assoc (_ ++ _)]
        congr 3
        rw [← e, List.drop_eq_getElem_cons hlt]
        rfl
      · rw [if_neg hlt, hw]
        obtain ⟨q, rfl⟩ : ∃ z, q = z + 1 := ⟨q - 1, by omega⟩
        unfold ferryref03_Map.l1
        rw [if_neg (by omega), ← e, List.drop_eq_nil_of_le (by omega), List.append_nil]
    unfold ferryref03_Map.l1
    rw [if_pos (by omega), if_neg (show ¬ (false = true) by decide)]
    by_cases hle : i = l.length
    · rw [if_pos (by omega)]
      unfold ferryref03_Map.j2
      rw [if_pos rfl]
      exact INS (by omega)
    · have hlt : i < l.length := by omega
      rw [if_neg (by omega), if_pos (by omega), if_pos (by omega), mp_getR hlt]
      unfold ferryref03_Map.j2
      by_cases hi2 : i = lowB mpK a l
      · have h1 := lowB_ge mpK a hr i hlt (by omega)
        have h2 := hna _ (List.getElem_mem hlt)
        have h3 : mpK l[i] = l[i].f0 := rfl
        rw [decide_eq_true (by omega), if_pos rfl]
        exact INS hi2
      · have h1 := lowB_lt mpK a l i hlt (by omega)
        have h3 : mpK l[i] = l[i].f0 := rfl
        rw [decide_eq_false (by omega), if_neg (by decide), if_pos (by omega), if_pos (by omega), if_pos (by omega), hw, mp_getR hlt]
        have e : l.take i ++ [(⟨l[i].f0, l[i].f1⟩ : SM)] = l.take (i + 1) := by
          rw [List.take_succ_eq_append_getElem hlt]
        rw [e]
        exact ref_Map_l1 l m hl hr N hN hna k (i + 1) (by omega) (by omega)
theorem ref_Map_l0 (l : List SM) (m : List SC) (wl : ∀ x ∈ l, wfM x) (hl : l.length ≤ 64) (hr : Rises mpK l) {a n p : Int} (a0 : 0 ≤ a) (n0 : 0 < n) : ∀ (k i : Nat), i ≤ l.length → (l.length - i) + 2 * (l.length + 1) + n.toNat + 8 < k →
    (∀ j (hj : j < l.length), j < i → withB l[j].f0 a n = false) →
    ferryref03_Map.l0 k a n p (i : Int) l m = if l.any (fun x => withB x.f0 a n) = true then some (l, m, 17) else if n > 64 - (l.length : Int) then some (l, m, 105) else some (l.take (lowB mpK a l) ++ moreP a n.toNat p ++ l.drop (lowB mpK a l), m, 0)
  | 0, i, _, h, _ => by omega
  | k + 1, i, hi, h, hn => by
    unfold ferryref03_Map.l0
    by_cases hlt : i < l.length
    · have hx : (0 ≤ l[i].f0 ∧ l[i].f0 ≤ 18446744073709551615) ∧ _ := wl _ (List.getElem_mem hlt)
      have hw : wrap64 ((i : Int) + 1) = ((i + 1 : Nat) : Int) := by unfold wrap64; omega
      rw [if_pos (by omega), if_pos (by omega), mp_getR hlt, hw, ref_in hx.1.1 hx.1.2 a0]
      cases hb : withB l[i].f0 a n with
      | true =>
        rw [if_pos rfl, if_pos (List.any_eq_true.2 ⟨_, List.getElem_mem hlt, hb⟩)]
      | false =>
        rw [if_neg (by decide)]
        refine ref_Map_l0 l m wl hl hr a0 n0 k (i + 1) hlt (by omega) (fun j hj hji => ?_)
        rcases Nat.lt_or_ge j i with h1 | h1
        · exact hn j hj h1
        · obtain rfl : j = i := by omega
          exact hb
    · obtain rfl : i = l.length := by omega
      have hany : l.any (fun x => withB x.f0 a n) = false := List.any_eq_false.2 (fun x hx => by
        obtain ⟨j, hj, rfl⟩ := List.getElem_of_mem hx
        rw [hn j hj hj]
        simp)
      have hw : IntKind.u64.wrap (wrap64 (64 - (l.length : Int))) = 64 - (l.length : Int) := by rw [u64w]; unfold wrap64; omega
      rw [if_neg (by omega), hany, if_neg (show ¬ (false = true) by decide), hw]
      by_cases hf : n > 64 - (l.length : Int)
      · rw [if_pos hf, if_pos hf]
      · rw [if_neg hf, if_neg hf]
        have hna : ∀ x ∈ l, x.f0 ≠ a := fun x hx e => by
          have h1 := List.any_eq_false.1 hany x hx
          have hw2 : (0 ≤ x.f0 ∧ x.f0 ≤ 18446744073709551615) ∧ _ := wl _ hx
          rw [withB_eq hw2.1.1 hw2.1.2 a0] at h1
          simp at h1
          omega
        have h2 := ref_Map_l1 l m (by omega) hr (a := a) (p := p) n.toNat (by omega) hna k 0 (Nat.zero_le _) (by omega)
        rw [show ((n.toNat : Nat) : Int) = n by omega] at h2
        exact h2
theorem ref_Map (l : List SM) (m : List SC) (wl : ∀ x ∈ l, wfM x) (hl : l.length ≤ 64) (hr : Rises mpK l) {a n p : Int} (a0 : 0 ≤ a) (a1 : a ≤ 18446744073709551615) (n0 : 0 ≤ n) (k : Nat) (hk : 3 * l.length + n.toNat + 12 < k) :
    ferryref03_Map.f k l m a n p = some (mapS l m a n p) := by
  unfold ferryref03_Map.f mapS
  rw [ref_wrong a0 a1 n0, Option.bind_some]
  by_cases h : wrongS a n p = true
  · rw [if_pos h, if_pos h]
  · rw [if_neg h, if_neg h]
    have hne : n ≠ 0 := fun e => h (by unfold wrongS; exact decide_eq_true (Or.inl e))
    have := ref_Map_l0 l m wl hl hr (p := p) a0 (show 0 < n by omega) k 0 (Nat.zero_le _) (by omega) (fun j _ hj => by omega)
    rw [show ((0 : Nat) : Int) = 0 from rfl] at this
    rw [this]
    split
    · rfl
    · split <;> rfl
theorem host_Map_spec (l : List SM) (m : List SC) (wl : ∀ x ∈ l, wfM x) (hl : l.length ≤ 64) (hr : Rises mpK l) {a n p : Int} (a0 : 0 ≤ a) (a1 : a ≤ 18446744073709551615) (n0 : 0 ≤ n) (p0 : -9223372036854775808 ≤ p) (p1 : p ≤ 9223372036854775807) :
    host_Map.f l m a n p = some (mapS l m a n p) := by
  unfold host_Map.f mapS
  rw [host_wrong_spec a0 a1 n0 p0 p1, Option.bind_some]
  by_cases h : wrongS a n p = true
  · rw [if_pos h, if_pos h]
  · have hne : n ≠ 0 := fun e => h (by unfold wrongS; exact decide_eq_true (Or.inl e))
    have hw : IntKind.u64.wrap (wrap64 (64 - (l.length : Int))) = 64 - (l.length : Int) := by rw [u64w]; unfold wrap64; omega
    rw [if_neg h, if_neg h, if_pos (by omega), hw]
    split
    · rfl
    · split
      · rfl
      · rw [if_pos ⟨by omega, by omega, (risesB_iff l).2 hr⟩]
end Go.Proofs.Ytlmmipdgedfboaa.F
end
