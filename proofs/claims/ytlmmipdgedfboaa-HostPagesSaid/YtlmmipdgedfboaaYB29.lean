import Derived.Below
import Derived.Deep.Draws
import Derived.Deep.AppendLies
import Derived.Maps.AppendAt
import Derived.OwnWalk
import Derived.Laws.BytesArg
import Derived.Laws.MakeOwn
import Derived.Laws.OwnMore
import Derived.Deep.OwnRows
import Derived.Tactics
import Derived.Lib.ConvBytes
import Derived.Laws.Slices
import Derived.WalkKit
import Derived.KernelRfl
import Derived.RowKit3
import Derived.Deep.LoopGhost
import Derived.Deep.QuietTactic
import Derived.BigQuiet
import Derived.WideLaws
import Derived.Deep.DeepCutAuto
import Derived.Deep.CutBlock
import Derived.Deep.RegionHeld3
import Derived.Laws.Rows
import Derived.Lib.AppendStr
import Derived.ArgAppend
import Derived.Laws.IdiomCopy
import Derived.RowKit
import Derived.OrdersHeld
import Derived.Laws.BitsLemmas
import Derived.Laws.StructEq
import Derived.OwnWalkIn
import Derived.ProofKit
import Derived.Lib.Hide
import Derived.Shelf.RegionOpen
import Derived.Shelf.Abstract
import Derived.Lib.SliceRun
import Derived.WalkSmall
import Derived.Laws.ResultCell
import Derived.Shelf.Spec.SlicesInsertGrow
import Derived.OpenShut
import Derived.Deep.Slices
import Derived.SizedLaws
import Derived.Test.YtlmmipdgedfboaaZF0
import Derived.Test.YtlmmipdgedfboaaYA3HHost0
import Derived.Test.YtlmmipdgedfboaaYA9
import Derived.Test.YtlmmipdgedfboaaYA10HHost11
import Derived.Test.YtlmmipdgedfboaaYA14
import Derived.Test.YtlmmipdgedfboaaYA16
import Derived.Test.YtlmmipdgedfboaaYB26HHost10
import Derived.Test.YtlmmipdgedfboaaYB27
import Derived.Test.YtlmmipdgedfboaaYB28FHostSame
section
namespace Go.Proofs.Ytlmmipdgedfboaa.F
open Go.RowKit Go.Shelf Go.Proofs.YtlmmipdgedfboaaW.PrintWords Go.Proofs.YtlmmipdgedfboaaW.PrintLast Go.Proofs.YtlmmipdgedfboaaW.PrintMore
set_option linter.unusedVariables false
set_option linter.unusedSimpArgs false
theorem andNot7_i64 {n : Int} (h0 : -9223372036854775808 ≤ n) (h1 : n ≤ 9223372036854775807) : Go.bits .andNot .i64 n 7 = n - n % 8 := by
  have h := bv_andNot (BitVec.ofInt 64 n) (BitVec.ofInt 64 7)
  have e : (BitVec.ofInt 64 n &&& BitVec.ofInt 64 7).toNat = (n % ((2 ^ 64 : Nat) : Int)).toNat % 8 := by
    rw [BitVec.toNat_and, BitVec.toNat_ofInt, show (BitVec.ofInt 64 7).toNat = 2 ^ 3 - 1 from rfl, Nat.and_two_pow_sub_one_eq_mod]
  rw [e, BitVec.toNat_ofInt] at h
  show IntKind.i64.wrap (((BitVec.ofInt 64 n &&& ~~~BitVec.ofInt 64 7).toNat : Nat) : Int) = _
  rw [IntKind.wrap_i64]
  have h3 : ((2 ^ 64 : Nat) : Int) = 18446744073709551616 := rfl
  rw [h3] at h
  omega
theorem badProt_iff {n : Int} (h0 : -9223372036854775808 ≤ n) (h1 : n ≤ 9223372036854775807) : (Go.bits .andNot .i64 n 7 != 0) = !decide (0 ≤ n ∧ n ≤ 7) := by
  rw [andNot7_i64 h0 h1]
  by_cases h : 0 ≤ n ∧ n ≤ 7
  · rw [decide_eq_true h, bne_eq_false_iff_eq.2 (by omega)]
    rfl
  · rw [decide_eq_false h, bne_iff_ne.2 (by omega)]
    rfl
theorem fitB_iff {l : List SM} {m : List SC} (wl : ∀ x ∈ l, wfM x) (wm : ∀ x ∈ m, wfC x) : fitB l m = true ↔ FitH l m := by
  unfold fitB
  simp only [Bool.and_eq_true, decide_eq_true_eq, Bool.not_eq_true', List.any_eq_false]
  rw [risesB_iff, risesB_iff]
  constructor
  · rintro ⟨h1, h2, h3, h4, h5, h6⟩
    refine ⟨h1, h3, fun x hx => ?_, h2, h4, fun x hx => ?_⟩
    · have hw : (0 ≤ x.f0 ∧ x.f0 ≤ 18446744073709551615) ∧ (-9223372036854775808 ≤ x.f1 ∧ x.f1 ≤ 9223372036854775807) := wl _ hx
      have h7 := h5 x hx
      unfold fitMap at h7
      rw [badProt_iff hw.2.1 hw.2.2] at h7
      simp only [Bool.or_eq_true, decide_eq_true_eq, Bool.not_eq_true', decide_eq_false_iff_not, not_or, Classical.not_not] at h7
      exact ⟨hw.1.1, by omega, h7.2.1, h7.2.2⟩
    · have hw : (0 ≤ x.f0 ∧ x.f0 ≤ 18446744073709551615) ∧ (0 ≤ x.f1 ∧ x.f1 ≤ 18446744073709551615) := wm _ hx
      have h7 := h6 x hx
      unfold fitCell at h7
      rw [and7_u64 hw.1.1 hw.1.2, quo_u64 hw.1.1 (by omega) (by omega)] at h7
      simp only [Bool.or_eq_true, Bool.not_eq_true', not_or, bne_iff_ne, beq_iff_eq, Classical.not_not, Bool.not_eq_false] at h7
      exact ⟨hw.1.1, by omega, h7.1.2, by omega, by omega, h7.1.1⟩
  · intro h
    refine ⟨h.lr, h.mr, h.ln, h.mn, fun x hx => ?_, fun x hx => ?_⟩
    · have hw : (0 ≤ x.f0 ∧ x.f0 ≤ 18446744073709551615) ∧ (-9223372036854775808 ≤ x.f1 ∧ x.f1 ≤ 9223372036854775807) := wl _ hx
      have := h.lp x hx
      unfold fitMap
      rw [badProt_iff hw.2.1 hw.2.2]
      simp only [Bool.or_eq_true, decide_eq_true_eq, Bool.not_eq_true', decide_eq_false_iff_not, not_or, Classical.not_not]
      exact ⟨by omega, this.2.2⟩
    · have hw : (0 ≤ x.f0 ∧ x.f0 ≤ 18446744073709551615) ∧ (0 ≤ x.f1 ∧ x.f1 ≤ 18446744073709551615) := wm _ hx
      have := h.mp x hx
      unfold fitCell
      rw [and7_u64 hw.1.1 hw.1.2, quo_u64 hw.1.1 (by omega) (by omega)]
      simp only [Bool.or_eq_true, Bool.not_eq_true', not_or, bne_iff_ne, beq_iff_eq, Classical.not_not, Bool.not_eq_false]
      exact ⟨⟨this.2.2.2.2.2, this.2.2.1⟩, by omega⟩
theorem fitB_fitR {l : List SM} {m : List SC} (wl : ∀ x ∈ l, wfM x) (wm : ∀ x ∈ m, wfC x) : fitB l m = fitR l m := by
  rw [Bool.eq_iff_iff, fitB_iff wl wm, fitR_iff wl wm]
end Go.Proofs.Ytlmmipdgedfboaa.F
end
section
namespace Go.Proofs.Ytlmmipdgedfboaa.F
open Go.RowKit Go.Shelf Go.Proofs.YtlmmipdgedfboaaW.PrintWords Go.Proofs.YtlmmipdgedfboaaW.PrintLast Go.Proofs.YtlmmipdgedfboaaW.PrintMore
set_option linter.unusedVariables false
set_option linter.unusedSimpArgs false
theorem eqM_loop (l l' : List SM) (e : l.length = l'.length) (hl : l.length ≤ 1000000) : ∀ (k i : Nat), i ≤ l.length → l.length - i < k → api_Map_55.l0 k l l' (l.length : Int) (i : Int) = some (eqL eqMp (l.drop i) (l'.drop i))
  | 0, i, _, h => by omega
  | k + 1, i, hi, h => by
    unfold api_Map_55.l0
    by_cases hlt : i < l.length
    · have hw : wrap64 ((i : Int) + 1) = ((i + 1 : Nat) : Int) := by unfold wrap64; omega
      rw [if_pos (by omega), if_pos (by omega), if_pos (by omega), if_pos (by omega), mp_getR hlt, mp_getR (by omega), hw, eqM_loop l l' e hl k (i + 1) hlt (by omega), List.drop_eq_getElem_cons hlt, List.drop_eq_getElem_cons (show i < l'.length by omega)]
      rw [show eqL eqMp (l[i] :: l.drop (i + 1)) (l'[i] :: l'.drop (i + 1)) = (eqMp l[i] l'[i] && eqL eqMp (l.drop (i + 1)) (l'.drop (i + 1))) from rfl]
      unfold eqMp
      cases (l[i].f0 == l'[i].f0) <;> cases (l[i].f1 == l'[i].f1) <;> rfl
    · rw [if_neg (by omega), List.drop_eq_nil_of_le (by omega), List.drop_eq_nil_of_le (by omega)]
      rfl
theorem eqM_f (l l' : List SM) (hl : l.length ≤ 1000000) (k : Nat) (hk : l.length < k) : api_Map_55.f k l l' = some (eqL eqMp l l') := by
  unfold api_Map_55.f
  by_cases e : l.length = l'.length
  · rw [if_pos (by omega)]
    exact eqM_loop l l' e hl k 0 (Nat.zero_le _) (by omega)
  · rw [if_neg (by omega)]
    cases h : eqL eqMp l l' with
    | false => rfl
    | true => exact absurd (eqL_length h) e
theorem eqC_loop (l l' : List SC) (e : l.length = l'.length) (hl : l.length ≤ 1000000) : ∀ (k i : Nat), i ≤ l.length → l.length - i < k → api_Cell_56.l0 k l l' (l.length : Int) (i : Int) = some (eqL eqCl (l.drop i) (l'.drop i))
  | 0, i, _, h => by omega
  | k + 1, i, hi, h => by
    unfold api_Cell_56.l0
    by_cases hlt : i < l.length
    · have hw : wrap64 ((i : Int) + 1) = ((i + 1 : Nat) : Int) := by unfold wrap64; omega
      rw [if_pos (by omega), if_pos (by omega), if_pos (by omega), if_pos (by omega), cl_getR hlt, cl_getR (by omega), hw, eqC_loop l l' e hl k (i + 1) hlt (by omega), List.drop_eq_getElem_cons hlt, List.drop_eq_getElem_cons (show i < l'.length by omega)]
      rw [show eqL eqCl (l[i] :: l.drop (i + 1)) (l'[i] :: l'.drop (i + 1)) = (eqCl l[i] l'[i] && eqL eqCl (l.drop (i + 1)) (l'.drop (i + 1))) from rfl]
      unfold eqCl
      cases (l[i].f0 == l'[i].f0) <;> cases (l[i].f1 == l'[i].f1) <;> rfl
    · rw [if_neg (by omega), List.drop_eq_nil_of_le (by omega), List.drop_eq_nil_of_le (by omega)]
      rfl
theorem eqC_f (l l' : List SC) (hl : l.length ≤ 1000000) (k : Nat) (hk : l.length < k) : api_Cell_56.f k l l' = some (eqL eqCl l l') := by
  unfold api_Cell_56.f
  by_cases e : l.length = l'.length
  · rw [if_pos (by omega)]
    exact eqC_loop l l' e hl k 0 (Nat.zero_le _) (by omega)
  · rw [if_neg (by omega)]
    cases h : eqL eqCl l l' with
    | false => rfl
    | true => exact absurd (eqL_length h) e
theorem host_Same_spec (l : List SM) (m : List SC) (l' : List SM) (m' : List SC) (hl : l.length ≤ 1000000) (hm : m.length ≤ 1000000) (k : Nat) (hk : l.length + m.length < k) : host_Same.f k l m l' m' = some (sameS l m l' m') := by
  unfold host_Same.f sameS
  rw [eqM_f l l' hl k (by omega), Option.bind_some, eqC_f m m' hm k (by omega)]
  cases eqL eqMp l l' <;> rfl
end Go.Proofs.Ytlmmipdgedfboaa.F
end
