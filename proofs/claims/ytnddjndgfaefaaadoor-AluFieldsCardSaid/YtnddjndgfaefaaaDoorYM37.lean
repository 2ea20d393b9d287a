import Derived.Below
import Derived.Deep.Draws
import Derived.Deep.AppendLies
import Derived.Maps.AppendAt
import Derived.OwnWalk
import Derived.Laws.BytesArg
import Derived.Laws.MakeOwn
import Derived.Laws.OwnMore
import Derived.Deep.OwnRows
import Derived.Tactics
import Derived.Lib.ConvBytes
import Derived.Laws.Slices
import Derived.WalkKit
import Derived.KernelRfl
import Derived.RowKit3
import Derived.Deep.LoopGhost
import Derived.Deep.QuietTactic
import Derived.BigQuiet
import Derived.WideLaws
import Derived.Deep.DeepCutAuto
import Derived.Deep.CutBlock
import Derived.Deep.RegionHeld3
import Derived.Laws.Rows
import Derived.Lib.AppendStr
import Derived.ArgAppend
import Derived.Laws.IdiomCopy
import Derived.RowKit
import Derived.OrdersHeld
import Derived.Laws.BitsLemmas
import Derived.Laws.StructEq
import Derived.WalkLawsBesides
import Derived.Shelf.Abstract
import Derived.Shelf.RegionOpen
import Derived.RangeFuncRecord
import Derived.OwnWalkIn
import Derived.ProofKit
import Derived.Lib.Hide
import Derived.Shelf.Small.Bits
import Derived.Shelf.LaysM
import Derived.Shelf.Strings.Fields
import Derived.Shelf.Strings.Replace
import Derived.Shelf.Strings.SplitShaped
import Derived.Lib.LaidTab
import Derived.Maps.OwnOps
import Derived.WalkSmall
import Derived.Laws.ResultCell
import Derived.Deep.RegionWith
import Derived.Defers
import Derived.Recover
import Derived.Tactics2
import Derived.OpenShut
import Derived.Deep.Slices
import Derived.SizedLaws
import Derived.Lib.ItoaNum
import Derived.Test.YtnddjndgfaefaaaDoorZF0
import Derived.Test.YtnddjndgfaefaaaDoorYA18FFerrylaw09Awake
import Derived.Test.YtnddjndgfaefaaaDoorYA21
import Derived.Test.YtnddjndgfaefaaaDoorYB22
import Derived.Test.YtnddjndgfaefaaaDoorYF26PAlu0
import Derived.Test.YtnddjndgfaefaaaDoorYI29
import Derived.Test.YtnddjndgfaefaaaDoorYM35
import Derived.Test.YtnddjndgfaefaaaDoorYM36FFerrylaw09AluFields
section
namespace Go.Proofs.YtnddjndgfaefaaaDoor.F
open Go.RowKit Go.Proofs.YtnddjndgfaefaaaDoorW.PrintWords Go.Proofs.YtnddjndgfaefaaaDoorW.PrintLast Go.Proofs.YtnddjndgfaefaaaDoorW.PrintMore
def ferrylaw09_AluFields.Pure : Prop :=
  ∀ (a0 : Int) (a1 : Int) (a2 : Int) (a3 : Int), (0 ≤ a0 ∧ a0 ≤ 4294967295) → (0 ≤ a1 ∧ a1 ≤ 4294967295) → (0 ≤ a2 ∧ a2 ≤ 255) → (0 ≤ a3 ∧ a3 ≤ 255) → ∃ k, ferrylaw09_AluFields.f k a0 a1 a2 a3 = some true
end Go.Proofs.YtnddjndgfaefaaaDoor.F
end
section
namespace Go.Proofs.YtnddjndgfaefaaaDoor.F
set_option linter.unusedVariables false
set_option linter.unusedSimpArgs false
open Go.RowKit Go.Proofs.YtnddjndgfaefaaaDoorW.PrintWords Go.Proofs.YtnddjndgfaefaaaDoorW.PrintLast Go.Proofs.YtnddjndgfaefaaaDoorW.PrintMore
def insOf (s t : Nat) (l w : Nat) : Nat := 2 ^ l * (2 ^ w * (t / 2 ^ (l + w)) + s % 2 ^ w) + t % 2 ^ l
theorem pow_split (x l w : Nat) : x = 2 ^ l * (2 ^ w * (x / 2 ^ (l + w)) + x / 2 ^ l % 2 ^ w) + x % 2 ^ l := by
  have h1 := Nat.div_add_mod x (2 ^ l)
  have h2 := Nat.div_add_mod (x / 2 ^ l) (2 ^ w)
  rw [Nat.div_div_eq_div_mul, ← Nat.pow_add] at h2
  rw [h2, h1]
theorem ins_val (s t : Nat) (l w : Nat) (hs : s < 4294967296) (ht : t < 4294967296) (hlw : l + w ≤ 32) :
    Go.bits .or .u32 (Go.bits .andNot .u32 (t : Int) ((2 ^ w - 1) * 2 ^ l % 4294967296)) (Go.bits .and .u32 ((s : Int) * 2 ^ l % 4294967296) ((2 ^ w - 1) * 2 ^ l % 4294967296)) = (insOf s t l w : Int) := by
  have hpl : 0 < 2 ^ l := Nat.pow_pos (by decide)
  have hpw : 0 < 2 ^ w := Nat.pow_pos (by decide)
  have hm : (2 ^ w - 1) * 2 ^ l < 4294967296 := by
    have : 2 ^ w * 2 ^ l ≤ 2 ^ 32 := by rw [← Nat.pow_add]; exact Nat.pow_le_pow_right (by decide) (by omega)
    have h2 : (2 ^ w - 1) * 2 ^ l < 2 ^ w * 2 ^ l := Nat.mul_lt_mul_of_pos_right (by omega) hpl
    omega
  have em : ((2 : Int) ^ w - 1) * 2 ^ l % 4294967296 = ((((2 ^ w - 1) * 2 ^ l : Nat)) : Int) := by
    have : ((2 : Int) ^ w - 1) * 2 ^ l = ((((2 ^ w - 1) * 2 ^ l : Nat)) : Int) := by
      rw [Int.natCast_mul, Int.natCast_sub (by omega)]
      push_cast
      rfl
    rw [this]
    exact Int.emod_eq_of_lt (by omega) (by omega)
  have es : (s : Int) * 2 ^ l % 4294967296 = ((s * 2 ^ l % 4294967296 : Nat) : Int) := by rw [Int.natCast_emod, Int.natCast_mul, Int.natCast_pow]; rfl
  rw [em, es, andNot32 t _ ht hm, (bits_nat32 _ _ (Nat.mod_lt _ (by decide)) hm).1, nat_mask_at, nat_mask_at]
  have hq : s * 2 ^ l % 4294967296 / 2 ^ l % 2 ^ w = s % 2 ^ w := by
    rw [show (4294967296 : Nat) = 2 ^ (32 - l) * 2 ^ l from by rw [← Nat.pow_add, Nat.sub_add_cancel (by omega)], Nat.mul_mod_mul_right, Nat.mul_div_cancel _ hpl]
    exact Nat.mod_mod_of_dvd s (Nat.pow_dvd_pow 2 (by omega))
  rw [hq]
  have hsplit := pow_split t l w
  have hM : t / 2 ^ l % 2 ^ w * 2 ^ l ≤ t := by
    have : 2 ^ l * (2 ^ w * (t / 2 ^ (l + w)) + t / 2 ^ l % 2 ^ w) = 2 ^ l * (2 ^ w * (t / 2 ^ (l + w))) + t / 2 ^ l % 2 ^ w * 2 ^ l := by rw [Nat.mul_add, Nat.mul_comm (2 ^ l) (t / 2 ^ l % 2 ^ w)]
    omega
  have ha : ((t : Int) - ((t / 2 ^ l % 2 ^ w * 2 ^ l : Nat) : Int)) = ((2 ^ l * (2 ^ w * (t / 2 ^ (l + w))) + t % 2 ^ l : Nat) : Int) := by
    have : 2 ^ l * (2 ^ w * (t / 2 ^ (l + w)) + t / 2 ^ l % 2 ^ w) = 2 ^ l * (2 ^ w * (t / 2 ^ (l + w))) + t / 2 ^ l % 2 ^ w * 2 ^ l := by rw [Nat.mul_add, Nat.mul_comm (2 ^ l) (t / 2 ^ l % 2 ^ w)]
    omega
  have hb1 : 2 ^ l * (2 ^ w * (t / 2 ^ (l + w))) + t % 2 ^ l < 2 ^ 32 := by
    have : 2 ^ l * (2 ^ w * (t / 2 ^ (l + w)) + t / 2 ^ l % 2 ^ w) = 2 ^ l * (2 ^ w * (t / 2 ^ (l + w))) + t / 2 ^ l % 2 ^ w * 2 ^ l := by rw [Nat.mul_add, Nat.mul_comm (2 ^ l) (t / 2 ^ l % 2 ^ w)]
    omega
  have hb2 : s % 2 ^ w * 2 ^ l < 2 ^ 32 := by
    have h1 : s % 2 ^ w < 2 ^ w := Nat.mod_lt _ hpw
    have h2 : s % 2 ^ w * 2 ^ l < 2 ^ w * 2 ^ l := Nat.mul_lt_mul_of_pos_right h1 hpl
    have h3 : 2 ^ w * 2 ^ l ≤ 2 ^ 32 := by rw [← Nat.pow_add]; exact Nat.pow_le_pow_right (by decide) (by omega)
    omega
  rw [ha, (bits_nat32 _ _ hb1 hb2).2.1]
  unfold insOf
  have e2 : s % 2 ^ w * 2 ^ l = 2 ^ l * (s % 2 ^ w) + 0 := by rw [Nat.mul_comm]; rfl
  rw [e2, or_digit l _ _ _ _ (Nat.mod_lt _ hpl) hpl, Nat.or_zero]
  have e3 : (2 ^ w * (t / 2 ^ (l + w))) ||| (s % 2 ^ w) = 2 ^ w * (t / 2 ^ (l + w)) + s % 2 ^ w := (Nat.two_pow_add_eq_or_of_lt (Nat.mod_lt _ hpw) _).symm
  rw [e3]
theorem ins_lt (s t : Nat) (l w : Nat) (ht : t < 4294967296) (hlw : l + w ≤ 32) : insOf s t l w < 4294967296 := by
  unfold insOf
  have hpl : 0 < 2 ^ l := Nat.pow_pos (by decide)
  have hpw : 0 < 2 ^ w := Nat.pow_pos (by decide)
  have e : (4294967296 : Nat) = 2 ^ l * (2 ^ w * 2 ^ (32 - (l + w))) := by rw [← Nat.mul_assoc, ← Nat.pow_add, ← Nat.pow_add, Nat.add_sub_cancel' hlw]
  have h1 : t / 2 ^ (l + w) < 2 ^ (32 - (l + w)) := by
    rw [Nat.div_lt_iff_lt_mul (Nat.pow_pos (by decide)), ← Nat.pow_add, Nat.sub_add_cancel hlw]
    exact ht
  have h2 : 2 ^ w * (t / 2 ^ (l + w)) + s % 2 ^ w < 2 ^ w * 2 ^ (32 - (l + w)) := by
    have : 2 ^ w * (t / 2 ^ (l + w) + 1) ≤ 2 ^ w * 2 ^ (32 - (l + w)) := Nat.mul_le_mul_left _ h1
    have h3 : s % 2 ^ w < 2 ^ w := Nat.mod_lt _ hpw
    rw [Nat.mul_add] at this
    omega
  have h4 : 2 ^ l * (2 ^ w * (t / 2 ^ (l + w)) + s % 2 ^ w + 1) ≤ 2 ^ l * (2 ^ w * 2 ^ (32 - (l + w))) := Nat.mul_le_mul_left _ h2
  have h5 : t % 2 ^ l < 2 ^ l := Nat.mod_lt _ hpl
  rw [Nat.mul_add] at h4
  omega
theorem ins_mid (s t : Nat) (l w : Nat) : insOf s t l w / 2 ^ l % 2 ^ w = s % 2 ^ w := by
  unfold insOf
  have hpl : 0 < 2 ^ l := Nat.pow_pos (by decide)
  have hpw : 0 < 2 ^ w := Nat.pow_pos (by decide)
  rw [Nat.add_comm, Nat.add_mul_div_left _ _ hpl, Nat.div_eq_of_lt (Nat.mod_lt _ hpl), Nat.zero_add, Nat.add_comm, Nat.add_mul_mod_self_left, Nat.mod_mod]
theorem ins_low (s t : Nat) (l w k : Nat) (hk : k < l) : insOf s t l w / 2 ^ k % 2 = t / 2 ^ k % 2 := by
  have h : insOf s t l w % 2 ^ l = t % 2 ^ l := by
    unfold insOf
    rw [Nat.add_comm, Nat.add_mul_mod_self_left, Nat.mod_mod]
  have g : ∀ x : Nat, x / 2 ^ k % 2 = x % 2 ^ l / 2 ^ k % 2 := by
    intro x
    have e : (2 : Nat) ^ l = 2 ^ k * 2 ^ (l - k) := by rw [← Nat.pow_add, Nat.add_sub_cancel' (by omega)]
    rw [e, Nat.mod_mul_right_div_self]
    exact (Nat.mod_mod_of_dvd _ (by obtain ⟨q, hq⟩ : ∃ q, l - k = q + 1 := ⟨l - k - 1, by omega⟩; rw [hq, Nat.pow_succ]; exact Nat.dvd_mul_left _ _)).symm
  rw [g, h, ← g]
theorem ins_high (s t : Nat) (l w k : Nat) (hk : l + w ≤ k) : insOf s t l w / 2 ^ k = t / 2 ^ k := by
  have hpl : 0 < 2 ^ l := Nat.pow_pos (by decide)
  have hpw : 0 < 2 ^ w := Nat.pow_pos (by decide)
  have h : insOf s t l w / 2 ^ (l + w) = t / 2 ^ (l + w) := by
    unfold insOf
    rw [Nat.pow_add, ← Nat.div_div_eq_div_mul, Nat.add_comm, Nat.add_mul_div_left _ _ hpl, Nat.div_eq_of_lt (Nat.mod_lt _ hpl), Nat.zero_add, Nat.add_comm, Nat.add_mul_div_left _ _ hpw, Nat.div_eq_of_lt (Nat.mod_lt _ hpw), Nat.zero_add]
  have e : (2 : Nat) ^ k = 2 ^ (l + w) * 2 ^ (k - (l + w)) := by rw [← Nat.pow_add, Nat.add_sub_cancel' hk]
  rw [e, ← Nat.div_div_eq_div_mul, ← Nat.div_div_eq_div_mul, h]
attribute [local irreducible] ferrylaw09_awake.f
theorem fields_loop (t r l h : Nat) (ht : t < 4294967296) (hr : r < 4294967296) (hb : ∀ k, k < 32 → (k < l ∨ h < k) → r / 2 ^ k % 2 = t / 2 ^ k % 2) :
    ∀ (d k n : Nat), n + d = 32 → d < k → ferrylaw09_AluFields.l0 k (t : Int) (l : Int) (h : Int) (r : Int) (n : Int) = some true
  | 0, 0, n, _, hk => by omega
  | 0, k + 1, n, hn, _ => by
    simp only [ferrylaw09_AluFields.l0]
    rw [if_neg (by omega), alu_awake]
    rfl
  | d + 1, 0, n, _, hk => by omega
  | d + 1, k + 1, n, hn, hk => by
    have ih := fields_loop t r l h ht hr hb d k (n + 1) (by omega) (by omega)
    have hw : wrap64 ((n : Int) + 1) = ((n + 1 : Nat) : Int) := by rw [w64_id (by omega) (by omega)]; omega
    have bit : ∀ x : Nat, x < 4294967296 → Go.bits .and .u32 (shr .u32 (x : Int) (n : Int)) 1 = ((x / 2 ^ n % 2 : Nat) : Int) := by
      intro x hx
      have hd := div_le (x := (x : Int)) (by omega) (by omega) n
      rw [shr32 _ rfl _ _ (by omega), and_one hd.1 hd.2]
      push_cast
      rfl
    simp only [ferrylaw09_AluFields.l0]
    rw [if_pos (by omega), bit r hr, bit t ht, hw]
    by_cases h1 : n < l
    · rw [if_pos (by omega), if_pos (by omega), if_pos (by rw [hb n (by omega) (Or.inl h1)]), ih]
    · rw [if_neg (by omega)]
      by_cases h2 : h < n
      · rw [if_pos (by omega), if_pos (by omega), if_pos (by rw [hb n (by omega) (Or.inr h2)]), ih]
      · rw [if_neg (by omega), ih]
theorem fields_j0 (s t l h : Nat) (hs : s < 4294967296) (ht : t < 4294967296) (hlh : l ≤ h) (hh : h < 32) : ferrylaw09_AluFields.j0 40 (s : Int) (t : Int) (l : Int) (h : Int) = some true := by
  obtain ⟨v1, e1⟩ := enc_ins h l hh hlh
  obtain ⟨v2, e2⟩ := enc_ext (h - l) l (by omega)
  obtain ⟨v3, e3⟩ := enc_ext (h - l) 0 (by omega)
  have hw : wrap64 ((h : Int) - (l : Int)) = ((h - l : Nat) : Int) := by rw [w64_id (by omega) (by omega)]; omega
  have k1 := aval_ins 0 0 (h : Int) (l : Int) 0 (s : Int) (t : Int) v1 (by omega) (by omega) (by omega) (by omega) (by decide) (by decide) (by omega) (by omega) (by omega) (by omega) (by omega) e1
  have z1 : ((h : Int) + 1 - (l : Int)).toNat = h - l + 1 := by omega
  rw [z1, Int.toNat_natCast, ins_val s t l (h - l + 1) hs ht (by omega)] at k1
  have hr := ins_lt s t l (h - l + 1) ht (by omega)
  have k2 := aval_ext 0 0 ((h - l : Nat) : Int) (l : Int) 0 (insOf s t l (h - l + 1) : Int) 0 v2 (by omega) (by omega) (by decide) (by decide) (by decide) (by decide) (by omega) (by omega) (by omega) (by omega) e2
  have k3 := aval_ext 0 0 ((h - l : Nat) : Int) 0 0 (s : Int) 0 v3 (by omega) (by omega) (by decide) (by decide) (by decide) (by decide) (by omega) (by omega) (by decide) (by decide) e3
  have z2 : (((h - l : Nat) : Int) + 1).toNat = h - l + 1 := by omega
  have d2 := div_le (x := (insOf s t l (h - l + 1) : Int)) (by omega) (by omega) l
  rw [z2, Int.toNat_natCast, mask32 (h - l + 1) (by omega) d2.1 d2.2, show ((insOf s t l (h - l + 1) : Nat) : Int) / 2 ^ l % 2 ^ (h - l + 1) = ((insOf s t l (h - l + 1) / 2 ^ l % 2 ^ (h - l + 1) : Nat) : Int) from by push_cast; rfl, ins_mid] at k2
  rw [z2, show (0 : Int).toNat = 0 from rfl, show (s : Int) / 2 ^ 0 = (s : Int) from by rw [Int.pow_zero, Int.ediv_one], mask32 (h - l + 1) (by omega) (by omega) (by omega), show ((s : Nat) : Int) % 2 ^ (h - l + 1) = ((s % 2 ^ (h - l + 1) : Nat) : Int) from by push_cast; rfl] at k3
  simp only [ferrylaw09_AluFields.j0]
  rw [k1, Option.bind_some, hw, k2, Option.bind_some, k3, Option.bind_some]
  dsimp only
  rw [if_pos rfl, if_pos rfl, if_pos rfl, show ((((s % 2 ^ (h - l + 1) : Nat) : Int) != ((s % 2 ^ (h - l + 1) : Nat) : Int))) = false from bne_self_eq_false _]
  simp only [ferrylaw09_AluFields.j1]
  rw [if_neg (by decide)]
  exact fields_loop t _ l h ht hr (fun k hk hc => by
    rcases hc with hc | hc
    · exact ins_low s t l (h - l + 1) k hc
    · rw [ins_high s t l (h - l + 1) k (by omega)]) 32 38 0 (by omega) (by omega)
theorem AluFields_pure : ferrylaw09_AluFields.Pure := by
  intro s t x y hs ht hx hy
  refine ⟨40, ?_⟩
  obtain ⟨s, rfl, hs1⟩ := nat_of hs.1 hs.2
  obtain ⟨t, rfl, ht1⟩ := nat_of ht.1 ht.2
  have hw : ∀ z : Int, 0 ≤ z → ∃ n : Nat, wrap64 (Int.tmod z 32) = (n : Int) ∧ n < 32 := by
    intro z z0
    rw [Int.tmod_eq_emod_of_nonneg z0]
    exact ⟨(z % 32).toNat, by rw [w64_id (by omega) (by omega)]; omega, by omega⟩
  obtain ⟨m, em, hm⟩ := hw x hx.1
  obtain ⟨n, en, hn⟩ := hw y hy.1
  unfold ferrylaw09_AluFields.f
  rw [em, en]
  by_cases h : (m : Int) > (n : Int)
  · rw [if_pos h]
    exact fields_j0 s t n m hs1 ht1 (by omega) hm
  · rw [if_neg h]
    exact fields_j0 s t m n hs1 ht1 (by omega) hn
end Go.Proofs.YtnddjndgfaefaaaDoor.F
end
