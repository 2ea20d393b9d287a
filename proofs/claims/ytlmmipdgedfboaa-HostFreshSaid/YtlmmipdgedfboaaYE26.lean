import Derived.Below
import Derived.Deep.Draws
import Derived.Deep.AppendLies
import Derived.Maps.AppendAt
import Derived.OwnWalk
import Derived.Laws.BytesArg
import Derived.Laws.MakeOwn
import Derived.Laws.OwnMore
import Derived.Deep.OwnRows
import Derived.Tactics
import Derived.Lib.ConvBytes
import Derived.Laws.Slices
import Derived.WalkKit
import Derived.KernelRfl
import Derived.RowKit3
import Derived.Deep.LoopGhost
import Derived.Deep.QuietTactic
import Derived.BigQuiet
import Derived.WideLaws
import Derived.Deep.DeepCutAuto
import Derived.Deep.CutBlock
import Derived.Deep.RegionHeld3
import Derived.Laws.Rows
import Derived.Lib.AppendStr
import Derived.ArgAppend
import Derived.Laws.IdiomCopy
import Derived.RowKit
import Derived.OrdersHeld
import Derived.Laws.BitsLemmas
import Derived.Laws.StructEq
import Derived.OwnWalkIn
import Derived.WalkSmall
import Derived.Laws.ResultCell
import Derived.ProofKit
import Derived.Lib.Hide
import Derived.Shelf.RegionOpen
import Derived.Shelf.Abstract
import Derived.Lib.SliceRun
import Derived.Shelf.Spec.SlicesInsertGrow
import Derived.OpenShut
import Derived.Deep.Slices
import Derived.SizedLaws
import Derived.Test.YtlmmipdgedfboaaZF0
import Derived.Test.YtlmmipdgedfboaaYA0
import Derived.Test.YtlmmipdgedfboaaYA1HHost0
import Derived.Test.YtlmmipdgedfboaaYA7Slc
import Derived.Test.YtlmmipdgedfboaaYA10
import Derived.Test.YtlmmipdgedfboaaYA11HHost4
import Derived.Test.YtlmmipdgedfboaaYA16HHost11
import Derived.Test.YtlmmipdgedfboaaYA17
import Derived.Test.YtlmmipdgedfboaaYB20
import Derived.Test.YtlmmipdgedfboaaYC21
import Derived.Test.YtlmmipdgedfboaaYE24HHost3
import Derived.Test.YtlmmipdgedfboaaYE25FFerrylaw03HostFresh
section
namespace Go.Proofs.Ytlmmipdgedfboaa.F
open Go.RowKit Go.Proofs.YtlmmipdgedfboaaW.PrintWords Go.Proofs.YtlmmipdgedfboaaW.PrintLast Go.Proofs.YtlmmipdgedfboaaW.PrintMore
def ferrylaw03_HostFresh.Pure : Prop :=
  ∀ (l0_0 : List (S53)) (l0_1 : List (S55)) (a1 : Int) (a2 : Int) (a3 : Int), (l0_0.length ≤ 9223372036854775807 ∧ ∀ x_ ∈ l0_0, wfS53 x_) → (l0_1.length ≤ 9223372036854775807 ∧ ∀ x_ ∈ l0_1, wfS55 x_) → (0 ≤ a1 ∧ a1 ≤ 18446744073709551615) → (0 ≤ a2 ∧ a2 ≤ 18446744073709551615) → ((-9223372036854775808) ≤ a3 ∧ a3 ≤ 9223372036854775807) → ∃ k, ferrylaw03_HostFresh.f k l0_0 l0_1 a1 a2 a3 = some true
end Go.Proofs.Ytlmmipdgedfboaa.F
end
section
namespace Go.Proofs.Ytlmmipdgedfboaa.F
open Go.RowKit Go.Proofs.YtlmmipdgedfboaaW.PrintWords Go.Proofs.YtlmmipdgedfboaaW.PrintLast Go.Proofs.YtlmmipdgedfboaaW.PrintMore
theorem i64_keep (n : Int) (h₀ : 0 ≤ n) (h₁ : n < 2 ^ 63) : IntKind.i64.wrap n = n := by rw [IntKind.wrap_i64]; omega
theorem and_mask_i64 (n : Int) (i : Nat) (hi : i ≤ 62) : Go.bits .and .i64 n (2 ^ i - 1) = n % 2 ^ i := by
  have hp : (2 : Nat) ^ i ≤ 2 ^ 62 := Nat.pow_le_pow_right (by decide) hi
  have hpos : 0 < (2 : Nat) ^ i := Nat.two_pow_pos i
  have e0 : ((2 : Int) ^ i - 1) = ((2 ^ i - 1 : Nat) : Int) := by
    rw [Int.natCast_sub hpos]
    simp
  rw [e0]
  show IntKind.i64.wrap (((BitVec.ofInt 64 n &&& BitVec.ofInt 64 ((2 ^ i - 1 : Nat) : Int)).toNat : Nat) : Int) = _
  rw [BitVec.toNat_and, BitVec.ofInt_natCast, BitVec.toNat_ofNat, Nat.mod_eq_of_lt (show 2 ^ i - 1 < 2 ^ 64 by omega), Nat.and_two_pow_sub_one_eq_mod, BitVec.toNat_ofInt]
  have hlt : (n % ((2 ^ 64 : Nat) : Int)).toNat % 2 ^ i < 2 ^ i := Nat.mod_lt _ hpos
  rw [i64_keep _ (by omega) (by omega)]
  have hnn : 0 ≤ n % ((2 ^ 64 : Nat) : Int) := Int.emod_nonneg _ (by decide)
  rw [Int.natCast_emod, Int.toNat_of_nonneg hnn]
  have hd : ((2 ^ i : Nat) : Int) ∣ ((2 ^ 64 : Nat) : Int) := Int.natCast_dvd_natCast.mpr (Nat.pow_dvd_pow 2 (by omega))
  rw [Int.emod_emod_of_dvd _ hd]
  simp
end Go.Proofs.Ytlmmipdgedfboaa.F
end
section
namespace Go.Proofs.Ytlmmipdgedfboaa.F
open Go.RowKit Go.Shelf Go.Proofs.YtlmmipdgedfboaaW.PrintWords Go.Proofs.YtlmmipdgedfboaaW.PrintLast Go.Proofs.YtlmmipdgedfboaaW.PrintMore
set_option linter.unusedVariables false
set_option linter.unusedSimpArgs false
theorem andNot7_i64 {n : Int} (h0 : -9223372036854775808 ≤ n) (h1 : n ≤ 9223372036854775807) : Go.bits .andNot .i64 n 7 = n - n % 8 := by
  have h := bv_andNot (BitVec.ofInt 64 n) (BitVec.ofInt 64 7)
  have e : (BitVec.ofInt 64 n &&& BitVec.ofInt 64 7).toNat = (n % ((2 ^ 64 : Nat) : Int)).toNat % 8 := by
    rw [BitVec.toNat_and, BitVec.toNat_ofInt, show (BitVec.ofInt 64 7).toNat = 2 ^ 3 - 1 from rfl, Nat.and_two_pow_sub_one_eq_mod]
  rw [e, BitVec.toNat_ofInt] at h
  show IntKind.i64.wrap (((BitVec.ofInt 64 n &&& ~~~BitVec.ofInt 64 7).toNat : Nat) : Int) = _
  rw [IntKind.wrap_i64]
  have h3 : ((2 ^ 64 : Nat) : Int) = 18446744073709551616 := rfl
  rw [h3] at h
  omega
theorem badProt_iff {n : Int} (h0 : -9223372036854775808 ≤ n) (h1 : n ≤ 9223372036854775807) : (Go.bits .andNot .i64 n 7 != 0) = !decide (0 ≤ n ∧ n ≤ 7) := by
  rw [andNot7_i64 h0 h1]
  by_cases h : 0 ≤ n ∧ n ≤ 7
  · rw [decide_eq_true h, bne_eq_false_iff_eq.2 (by omega)]
    rfl
  · rw [decide_eq_false h, bne_iff_ne.2 (by omega)]
    rfl
end Go.Proofs.Ytlmmipdgedfboaa.F
end
section
namespace Go.Proofs.Ytlmmipdgedfboaa.F
open Go.RowKit Go.Shelf Go.Proofs.YtlmmipdgedfboaaW.PrintWords Go.Proofs.YtlmmipdgedfboaaW.PrintLast Go.Proofs.YtlmmipdgedfboaaW.PrintMore
set_option linter.unusedVariables false
set_option linter.unusedSimpArgs false
theorem host_wrong_spec {a n p : Int} (a0 : 0 ≤ a) (a1 : a ≤ 18446744073709551615) (n0 : 0 ≤ n) (p0 : -9223372036854775808 ≤ p) (p1 : p ≤ 9223372036854775807) : host_wrong.f a n p = some (wrongS a n p) := by
  unfold host_wrong.f host_badProt.f wrongS
  rw [u64w, Option.bind_some, badProt_iff p0 p1]
  by_cases h1 : n = 0
  · rw [if_pos h1, decide_eq_true (by omega)]
  rw [if_neg h1]
  by_cases h2 : a > 1125899906842624
  · rw [if_pos h2, decide_eq_true (by omega)]
  rw [if_neg h2]
  by_cases h3 : n > 1125899906842624 - a
  · rw [if_pos (by omega), decide_eq_true (by omega)]
  rw [if_neg (by omega)]
  by_cases h5 : a = 1125899906842624
  · omega
  congr 1
  by_cases h4 : 0 ≤ p ∧ p ≤ 7
  · rw [decide_eq_true h4, decide_eq_false (by omega)]
    rfl
  · rw [decide_eq_false h4, decide_eq_true (by omega)]
    rfl
def unmapS (l : List SM) (m : List SC) (a n : Int) : List SM × List SC × Int :=
  if wrongS a n 0 = true then (l, m, 22) else (l.filter (fun x => !withB x.f0 a n), m.filter (fun x => !withB (x.f0 / 16384) a n), 0)
theorem filter_cells {m : List SC} (wm : ∀ x ∈ m, wfC x) (a n : Int) : m.filter (fun x => !withB (IntKind.u64.wrap (Int.tdiv x.f0 16384)) a n) = m.filter (fun x => !withB (x.f0 / 16384) a n) := by
  refine List.filter_congr (fun x hx => ?_)
  have hw : (0 ≤ x.f0 ∧ x.f0 ≤ 18446744073709551615) ∧ _ := wm x hx
  rw [quo_u64 hw.1.1 (by omega) (by omega)]
theorem host_Unmap_spec (l : List SM) (m : List SC) (wm : ∀ x ∈ m, wfC x) (hl : l.length ≤ 1000000) (hm : m.length ≤ 1000000) {a n : Int} (a0 : 0 ≤ a) (a1 : a ≤ 18446744073709551615) (n0 : 0 ≤ n) :
    host_Unmap.f l m a n = some (unmapS l m a n) := by
  unfold host_Unmap.f unmapS
  rw [host_wrong_spec a0 a1 n0 (by omega) (by omega), Option.bind_some]
  by_cases h : wrongS a n 0 = true
  · rw [if_pos h, if_pos h]
  · rw [if_neg h, if_neg h, if_pos ⟨hl, hm⟩, filter_cells wm]
theorem has_filter {l : List SM} {k : Int} {p : SM → Bool} (h : has mpK k l = true) (hp : ∀ x ∈ l, mpK x = k → p x = true) : has mpK k (l.filter p) = true := by
  obtain ⟨x, hx, he⟩ := List.any_eq_true.1 h
  have he2 := of_decide_eq_true he
  exact List.any_eq_true.2 ⟨x, List.mem_filter.2 ⟨hx, hp x hx he2⟩, he⟩
theorem FitH.unmap {l : List SM} {m : List SC} (h : FitH l m) (a n : Int) : FitH (unmapS l m a n).1 (unmapS l m a n).2.1 := by
  unfold unmapS
  split
  · exact h
  · refine ⟨rises_filter mpK _ h.lr, Nat.le_trans (List.length_filter_le _ _) h.ln, fun x hx => h.lp x (List.mem_filter.1 hx).1, rises_filter clK _ h.mr, Nat.le_trans (List.length_filter_le _ _) h.mn, fun x hx => ?_⟩
    obtain ⟨h1, h2⟩ := List.mem_filter.1 hx
    have h3 := h.mp x h1
    refine ⟨h3.1, h3.2.1, h3.2.2.1, h3.2.2.2.1, h3.2.2.2.2.1, has_filter h3.2.2.2.2.2 (fun y hy he => ?_)⟩
    show (!withB (mpK y) a n) = true
    rw [he]
    exact h2
end Go.Proofs.Ytlmmipdgedfboaa.F
end
section
namespace Go.Proofs.Ytlmmipdgedfboaa.F
open Go.RowKit Go.Shelf Go.Proofs.YtlmmipdgedfboaaW.PrintWords Go.Proofs.YtlmmipdgedfboaaW.PrintLast Go.Proofs.YtlmmipdgedfboaaW.PrintMore
set_option linter.unusedVariables false
set_option linter.unusedSimpArgs false
theorem host_Map_spec (l : List SM) (m : List SC) (wl : ∀ x ∈ l, wfM x) (hl : l.length ≤ 64) (hr : Rises mpK l) {a n p : Int} (a0 : 0 ≤ a) (a1 : a ≤ 18446744073709551615) (n0 : 0 ≤ n) (p0 : -9223372036854775808 ≤ p) (p1 : p ≤ 9223372036854775807) :
    host_Map.f l m a n p = some (mapS l m a n p) := by
  unfold host_Map.f mapS
  rw [host_wrong_spec a0 a1 n0 p0 p1, Option.bind_some]
  by_cases h : wrongS a n p = true
  · rw [if_pos h, if_pos h]
  · have hne : n ≠ 0 := fun e => h (by unfold wrongS; exact decide_eq_true (Or.inl e))
    have hw : IntKind.u64.wrap (wrap64 (64 - (l.length : Int))) = 64 - (l.length : Int) := by rw [u64w]; unfold wrap64; omega
    rw [if_neg h, if_neg h, if_pos (by omega), hw]
    split
    · rfl
    · split
      · rfl
      · rw [if_pos ⟨by omega, by omega, (risesB_iff l).2 hr⟩]
end Go.Proofs.Ytlmmipdgedfboaa.F
end
section
namespace Go.Proofs.Ytlmmipdgedfboaa.F
open Go.RowKit Go.Shelf Go.Proofs.YtlmmipdgedfboaaW.PrintWords Go.Proofs.YtlmmipdgedfboaaW.PrintLast Go.Proofs.YtlmmipdgedfboaaW.PrintMore
set_option linter.unusedVariables false
set_option linter.unusedSimpArgs false
theorem leN_zero : ∀ (n : Nat) (f : Nat → Nat), (∀ i, i < n → f i = 0) → leN n f = 0
  | 0, _, _ => rfl
  | n + 1, f, h => by
    unfold leN
    rw [h 0 (by omega), leN_zero n _ (fun i hi => h (i + 1) (by omega))]
theorem bits_i64_bd (x : Int) : -9223372036854775808 ≤ IntKind.i64.wrap x ∧ IntKind.i64.wrap x ≤ 9223372036854775807 := by
  rw [IntKind.wrap_i64]
  omega
theorem or1_i64 (x : Int) : (-9223372036854775808 ≤ Go.bits .or .i64 x 1 ∧ Go.bits .or .i64 x 1 ≤ 9223372036854775807) ∧ Go.bits .or .i64 x 1 % 2 = 1 := by
  have e : Go.bits .or .i64 x 1 = IntKind.i64.wrap (((BitVec.ofInt 64 x ||| BitVec.ofInt 64 1).toNat : Nat) : Int) := rfl
  refine ⟨by rw [e]; exact bits_i64_bd _, ?_⟩
  have h : (BitVec.ofInt 64 x ||| BitVec.ofInt 64 1).toNat % 2 = 1 := by
    rw [BitVec.toNat_or, show (BitVec.ofInt 64 1).toNat = 1 from rfl]
    have := Nat.or_mod_two_eq_one (a := (BitVec.ofInt 64 x).toNat) (b := 1)
    rw [this]
    exact Or.inr rfl
  rw [e, IntKind.wrap_i64]
  omega
theorem and1_i64 (x : Int) : Go.bits .and .i64 x 1 = x % 2 := and_mask_i64 x 1 (by decide)
end Go.Proofs.Ytlmmipdgedfboaa.F
end
section
namespace Go.Proofs.Ytlmmipdgedfboaa.F
open Go.RowKit Go.Shelf Go.Proofs.YtlmmipdgedfboaaW.PrintWords Go.Proofs.YtlmmipdgedfboaaW.PrintLast Go.Proofs.YtlmmipdgedfboaaW.PrintMore
set_option linter.unusedVariables false
set_option linter.unusedSimpArgs false
theorem wrongS_at {p r s : Int} (h : wrongS p 1 0 = true) (hr : True) : wrongS p 1 r = true := by
  unfold wrongS at h ⊢
  have h2 := of_decide_eq_true h
  exact decide_eq_true (by omega)
theorem unmapS_err (l : List SM) (m : List SC) (a n : Int) : (unmapS l m a n).2.2 = if wrongS a n 0 = true then 22 else 0 := by
  unfold unmapS
  split <;> rfl
theorem mapS_wrong {l : List SM} {m : List SC} {a n p : Int} (h : wrongS a n p = true) : mapS l m a n p = (l, m, 22) := by
  unfold mapS
  rw [if_pos h]
theorem mapS_ok {l : List SM} {m : List SC} {a n p : Int} (h : (mapS l m a n p).2.2 = 0) : wrongS a n p = false ∧ l.any (fun x => withB x.f0 a n) = false ∧ mapS l m a n p = (l.take (lowB mpK a l) ++ moreP a n.toNat p ++ l.drop (lowB mpK a l), m, 0) := by
  unfold mapS at h ⊢
  by_cases h1 : wrongS a n p = true
  · rw [if_pos h1] at h; exact absurd h (by simp)
  rw [if_neg h1] at h ⊢
  by_cases h2 : l.any (fun x => withB x.f0 a n) = true
  · rw [if_pos h2] at h; exact absurd h (by simp)
  rw [if_neg h2] at h ⊢
  by_cases h3 : n > 64 - (l.length : Int)
  · rw [if_pos h3] at h; exact absurd h (by simp)
  rw [if_neg h3] at h ⊢
  exact ⟨Bool.eq_false_iff.2 h1, Bool.eq_false_iff.2 h2, rfl⟩
theorem HostFresh_pure : ferrylaw03_HostFresh.Pure := by
  intro l m a1 a2 a3 wl wm ha1 ha2 ha3
  refine ⟨1000, ?_⟩
  unfold ferrylaw03_HostFresh.f
  rw [few3_spec, Option.bind_some]
  have hj0 : ∀ k b, 100 ≤ k → b = true → ferrylaw03_HostFresh.j0 (k + 1) a1 a2 a3 b l m = some true := fun k b hk hb => by
    rw [ferrylaw03_HostFresh.j0, if_pos hb, awake03_ge k (by omega)]
    rfl
  by_cases hf : few3 l m = true
  rotate_left
  · rw [if_neg hf]
    exact hj0 999 true (by omega) rfl
  have hfew : l.length ≤ 70 ∧ m.length ≤ 200 := of_decide_eq_true hf
  rw [if_pos hf, ref_Fit_spec l m ⟨by omega, by omega⟩, Option.bind_some]
  by_cases hfit : fitR l m = true
  rotate_left
  · exact hj0 999 _ (by omega) (by simpa using hfit)
  have H := (fitR_iff wl.2 wm.2).1 hfit
  have hor := or1_i64 a3
  generalize hq : Go.bits .or .i64 a3 1 = q at hor
  rw [hfit, ferrylaw03_HostFresh.j0, if_neg (show ¬ ((!true) = true) by decide), host_Unmap_spec l m wm.2 (by omega) (by omega) ha1.1 ha1.2 (by omega), Option.bind_some]
  have HU := H.unmap a1 1
  have hue := unmapS_err l m a1 1
  have hum : wrongS a1 1 0 = false → (unmapS l m a1 1).2.1 = m.filter (fun x => !withB (x.f0 / 16384) a1 1) := fun h => by
    unfold unmapS
    rw [h, if_neg (by decide)]
  rw [hq]
  have hres : unmapS l m a1 1 = ((unmapS l m a1 1).1, (unmapS l m a1 1).2.1, (unmapS l m a1 1).2.2) := rfl
  generalize (unmapS l m a1 1).1 = l1 at HU hres ⊢
  generalize (unmapS l m a1 1).2.1 = m1 at HU hum hres ⊢
  generalize (unmapS l m a1 1).2.2 = e1 at hue hres ⊢
  rw [host_Map_spec l1 m1 HU.wl HU.ln HU.lr ha1.1 ha1.2 (by omega) hor.1.1 hor.1.2, Option.bind_some]
  have HM := HU.map (n := 1) (p := q) ha1.1
  have hm0 := fun h => mapS_ok (l := l1) (m := m1) (a := a1) (n := 1) (p := q) h
  have hw22 : wrongS a1 1 0 = true → (mapS l1 m1 a1 1 q).2.2 ≠ 0 := fun h => by
    rw [mapS_wrong (wrongS_at (s := 0) h trivial)]
    exact show (22 : Int) ≠ 0 by decide
  have hmeq : mapS l1 m1 a1 1 q = ((mapS l1 m1 a1 1 q).1, (mapS l1 m1 a1 1 q).2.1, (mapS l1 m1 a1 1 q).2.2) := rfl
  generalize (mapS l1 m1 a1 1 q).1 = l2 at HM hmeq ⊢
  generalize (mapS l1 m1 a1 1 q).2.1 = m2 at HM hmeq ⊢
  generalize (mapS l1 m1 a1 1 q).2.2 = e2 at hm0 hw22 hmeq ⊢
  have hj1 : ∀ k b, 100 ≤ k → b = true → e2 ≠ 0 → ferrylaw03_HostFresh.j1 (k + 1) a1 a2 a3 e1 e2 b l2 m2 = some true := fun k b hk hb he => by
    rw [ferrylaw03_HostFresh.j1, if_pos hb, if_neg he, awake03_ge k (by omega)]
    rfl
  by_cases hw : wrongS a1 1 0 = true
  · rw [if_pos hw] at hue
    rw [if_neg (by rw [hue]; decide)]
    exact hj1 998 true (by omega) rfl (hw22 hw)
  rw [if_neg hw] at hue
  rw [if_pos hue]
  by_cases h0 : e2 = 0
  rotate_left
  · exact hj1 998 _ (by omega) (bne_iff_ne.2 h0) h0
  obtain ⟨h1, h2, h3⟩ := hm0 h0
  have hm1 := hum (Bool.eq_false_iff.2 hw)
  obtain ⟨rfl, rfl, _⟩ : l2 = l1.take (lowB mpK a1 l1) ++ moreP a1 (1 : Int).toNat q ++ l1.drop (lowB mpK a1 l1) ∧ m2 = m1 ∧ True := by
    have := hmeq.symm.trans h3
    exact ⟨congrArg Prod.fst this, congrArg (fun x => x.2.1) this, trivial⟩
  have hwr : ¬ ((1 : Int) = 0 ∨ a1 ≥ 1125899906842624 ∨ 1 > 1125899906842624 - a1 ∨ q < 0 ∨ q > 7) := by
    unfold wrongS at h1
    simpa only [decide_eq_false_iff_not] using h1
  have hmore : moreP a1 (1 : Int).toNat q = [⟨a1, q⟩] := by
    have e : IntKind.u64.wrap (a1 + ((0 : Nat) : Int)) = a1 := by rw [u64w]; omega
    show [(⟨IntKind.u64.wrap (a1 + ((0 : Nat) : Int)), q⟩ : SM)] = _
    rw [e]
  rw [hmore] at HM ⊢
  generalize hl2 : l1.take (lowB mpK a1 l1) ++ [(⟨a1, q⟩ : SM)] ++ l1.drop (lowB mpK a1 l1) = l2 at HM
  have hprt : prt l2 a1 = q := by
    rw [← hl2]
    unfold prt
    rw [List.append_assoc, look_app, has_none (fun y hy => by have := take_lowB mpK a1 l1 y hy; omega), if_neg (by decide), List.singleton_append]
    unfold look
    rw [if_pos rfl]
  have hhas : has mpK a1 l2 = true := has_mem.2 ⟨⟨a1, q⟩, by rw [← hl2]; simp, rfl⟩
  rw [h0, ferrylaw03_HostFresh.j1, if_neg (by decide)]
  have ea : IntKind.u64.wrap ((IntKind.u64.wrap (a1 * 16384)) + (Int.tmod a2 16376)) = a1 * 16384 + a2 % 16376 := by
    rw [Int.tmod_eq_emod_of_nonneg ha2.1, u64w, u64w]
    omega
  have hfl : ∀ j : Int, 0 ≤ j → j < 0 + ((8 : Nat) : Int) → a1 * 16384 + a2 % 16376 + j < 18446744073709551616 ∧ faultS l2 (a1 * 16384 + a2 % 16376 + j) 1 = 0 := fun j j0 j1 => by
    have e : (a1 * 16384 + a2 % 16376 + j) / 16384 = a1 := by omega
    refine ⟨by omega, ?_⟩
    unfold faultS
    rw [e, hhas, if_pos rfl, hprt, and1_i64, if_neg (by omega)]
  have hask : askS l2 (a1 * 16384 + a2 % 16376) 1 (8 : Int).toNat 0 = (0, 0) := askS_all (by omega) (by omega) hfl
  have hv : leN (8 : Int).toNat (fun i => pk m2 ((a1 * 16384 + a2 % 16376).toNat + i)) = 0 := leN_zero _ _ (fun i hi => by
    have hi2 : i < 8 := hi
    unfold pk
    have hz : wN m2 ((a1 * 16384 + a2 % 16376).toNat + i - ((a1 * 16384 + a2 % 16376).toNat + i) % 8) = 0 := by
      unfold wN wrd
      rw [look_none clK clV]
      · rfl
      · intro x hx e
        rw [hm1] at hx
        obtain ⟨h5, h6⟩ := List.mem_filter.1 hx
        have h7 : x.f0 / 16384 = a1 := by
          have e2 : x.f0 = _ := e
          omega
        rw [h7, withB_eq ha1.1 ha1.2 ha1.1, decide_eq_true (by omega)] at h6
        simp at h6
    rw [hz]
    unfold byteAt
    simp)
  have hl2n : l2.length ≤ 64 := HM.ln
  rw [ea, host_Load_spec l2 HM.cells HM.lr (by omega) (by have := HM.mn; omega) (by omega) (by omega) 998 (by omega), Option.bind_some]
  unfold loadS
  rw [if_neg (by omega), hask, if_pos rfl, hv, hq, host_Map_spec l2 m2 HM.wl HM.ln HM.lr ha1.1 ha1.2 (by omega) hor.1.1 hor.1.2, Option.bind_some]
  have h17 : (mapS l2 m2 a1 1 q).2.2 = 17 := by
    unfold mapS
    rw [h1, if_neg (by decide), if_pos]
    obtain ⟨x, hx, he⟩ := has_mem.1 hhas
    refine List.any_eq_true.2 ⟨x, hx, ?_⟩
    rw [show x.f0 = a1 from he, withB_eq ha1.1 ha1.2 ha1.1]
    exact decide_eq_true (by omega)
  rw [if_pos (show (((0 : Nat) : Int), (0 : Int), (0 : Int)).1 = 0 from rfl), if_pos (show (((0 : Nat) : Int), (0 : Int), (0 : Int)).2.1 = 0 from rfl), if_pos h17, HM.fit_f, Option.bind_some, if_pos rfl, awake03_ge 998 (by omega)]
  rfl
end Go.Proofs.Ytlmmipdgedfboaa.F
end
