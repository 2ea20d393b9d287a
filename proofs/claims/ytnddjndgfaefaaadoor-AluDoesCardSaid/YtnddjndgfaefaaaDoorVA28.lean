import Derived.Below
import Derived.Deep.Draws
import Derived.Deep.AppendLies
import Derived.Maps.AppendAt
import Derived.OwnWalk
import Derived.Laws.BytesArg
import Derived.Laws.MakeOwn
import Derived.Laws.OwnMore
import Derived.Deep.OwnRows
import Derived.Tactics
import Derived.Lib.ConvBytes
import Derived.Laws.Slices
import Derived.WalkKit
import Derived.KernelRfl
import Derived.RowKit3
import Derived.Deep.LoopGhost
import Derived.Deep.QuietTactic
import Derived.BigQuiet
import Derived.WideLaws
import Derived.Deep.DeepCutAuto
import Derived.Deep.CutBlock
import Derived.Deep.RegionHeld3
import Derived.Laws.Rows
import Derived.Lib.AppendStr
import Derived.ArgAppend
import Derived.Laws.IdiomCopy
import Derived.RowKit
import Derived.OpenShut
import Derived.ProofKit
import Derived.Deep.Slices
import Derived.SizedLaws
import Derived.OrdersHeld
import Derived.Laws.BitsLemmas
import Derived.Laws.StructEq
import Derived.WalkLawsBesides
import Derived.Shelf.Abstract
import Derived.Shelf.RegionOpen
import Derived.RangeFuncRecord
import Derived.OwnWalkIn
import Derived.Lib.Hide
import Derived.Shelf.Small.Bits
import Derived.Shelf.LaysM
import Derived.Shelf.Strings.Fields
import Derived.Shelf.Strings.Replace
import Derived.Shelf.Strings.SplitShaped
import Derived.Lib.LaidTab
import Derived.Maps.OwnOps
import Derived.WalkSmall
import Derived.Laws.ResultCell
import Derived.Deep.RegionWith
import Derived.Defers
import Derived.Recover
import Derived.Tactics2
import Derived.Lib.ItoaNum
import Derived.Test.YtnddjndgfaefaaaDoorVZF0
import Derived.Test.YtnddjndgfaefaaaDoorVA0
import Derived.Test.YtnddjndgfaefaaaDoorVA4
import Derived.Test.YtnddjndgfaefaaaDoorVA6
import Derived.Test.YtnddjndgfaefaaaDoorVA20
import Derived.Test.YtnddjndgfaefaaaDoorVA25
import Derived.Test.YtnddjndgfaefaaaDoorVA27FFerrylaw09AluDoes
section
namespace Go.Proofs.YtnddjndgfaefaaaDoor.Opens
open Go.ChangeShapes Go.WideShapes Go.RowKit Go.Deep
open Go.Proofs.YtnddjndgfaefaaaDoorW.PrintWords

def Opens {α : Type} (P : Program) (t : TypeId) (d : Kd α) (wf : α → Prop) : Prop :=
  P.cellsOf t = d.sz ∧ ∀ {H : Type} (enc : TypeId × Value → H) (w : World) (base : Nat) (spare : Nat → Bool) (held : Bool) (fuel : Nat) (cs : List Value) (x : DataW H × List MemPlace),
    DataW.trod enc P w base spare held fuel t cs = some x → ∃ a : α, d.K w a cs ∧ wf a
theorem opens_int {P : Program} {t : TypeId} {k : IntKind} (hc : P.cellsOf t = 1) (ht : P.underlying t = some (.int k)) : Opens P t (Kd.int k) (fun n => (Lit.int k n).wf = true) :=
  ⟨hc, fun enc w base spare held fuel cs x h => by
    obtain ⟨n, rfl, _, hw⟩ := DataW.trod_int ht h
    exact ⟨n, rfl, hw⟩⟩
theorem opens_string {P : Program} {t : TypeId} (hc : P.cellsOf t = 1) (ht : P.underlying t = some .string) : Opens P t Kd.string (fun s => s.size ≤ maxLen) :=
  ⟨hc, fun enc w base spare held fuel cs x h => by
    obtain ⟨s, rfl, _, hw⟩ := DataW.trod_string ht h
    exact ⟨s, rfl, hw⟩⟩

structure OpensF {α : Type} (P : Program) (fl : List Field) (off : Nat) (d : Kd α) (wf : α → Prop) : Prop where
  out : ∀ {H : Type} (enc : TypeId × Value → H) (w : World) (base : Nat) (spare : Nat → Bool) (held : Bool) (fuel : Nat) (cs : List Value), cs.length = off + d.sz →
    (∀ (i : Nat) (f : Field), fl[i]? = some f → ∃ y, DataW.trod enc P w base spare held fuel f.type ((cs.drop f.offset).take (P.cellsOf f.type)) = some y) → ∃ a : α, d.K w a (cs.drop off) ∧ wf a
theorem opens_one {α : Type} {P : Program} {f : Field} {off : Nat} {d : Kd α} {wf : α → Prop} (ho : f.offset = off) (h : Opens P f.type d wf) : OpensF P [f] off d wf := by
  constructor
  intro H enc w base spare held fuel cs hl hf
  obtain ⟨y, hy⟩ := hf 0 f rfl
  obtain ⟨a, hK, hw⟩ := h.2 enc w base spare held fuel _ y hy
  have e : (cs.drop f.offset).take (P.cellsOf f.type) = cs.drop off := by
    rw [ho]
    apply List.take_of_length_le
    rw [h.1, List.length_drop]
    omega
  rw [e] at hK
  exact ⟨a, hK, hw⟩
theorem opens_cons {α β : Type} {P : Program} {f : Field} {fl : List Field} {off : Nat} {d : Kd α} {d' : Kd β} {wf : α → Prop} {wf' : β → Prop} (ho : f.offset = off) (h : Opens P f.type d wf) (hr : OpensF P fl (off + d.sz) d' wf') :
    OpensF P (f :: fl) off (Kd.pair d d') (fun x => wf x.1 ∧ wf' x.2) := by
  constructor
  intro H enc w base spare held fuel cs hl hf
  have hl' : cs.length = off + (d.sz + d'.sz) := hl
  obtain ⟨y, hy⟩ := hf 0 f rfl
  obtain ⟨a, hK, hw⟩ := h.2 enc w base spare held fuel _ y hy
  obtain ⟨b, hK', hw'⟩ := hr.out enc w base spare held fuel cs (by omega) (fun i g hg => hf (i + 1) g (by simpa using hg))
  refine ⟨(a, b), ⟨(cs.drop off).take d.sz, cs.drop (off + d.sz), ?_, ?_, hK'⟩, hw, hw'⟩
  · rw [← List.drop_drop, List.take_append_drop]
  · rw [ho, h.1] at hK
    exact hK
theorem opens_struct {α : Type} {P : Program} {t : TypeId} {fs : Array Field} {d : Kd α} {wf : α → Prop} (hc : P.cellsOf t = d.sz) (ht : P.underlying t = some (.struct fs)) (h : OpensF P fs.toList 0 d wf) : Opens P t d wf :=
  ⟨hc, fun enc w base spare held fuel cs x hx => by
    obtain ⟨xs, n, _, _, hl, hlen, hf⟩ := DataW.trod_struct ht hx
    have z := h.out enc w base spare held n cs (by omega) (fun i f hi => by
      have hi' : fs[i]? = some f := by simpa using hi
      have hlt : i < fs.size := by
        rcases Nat.lt_or_ge i fs.size with h' | h'
        · exact h'
        · rw [Array.getElem?_eq_none h'] at hi'
          cases hi'
      rw [hf i f hi', List.getElem?_eq_getElem (by omega)]
      exact ⟨_, rfl⟩)
    simpa using z⟩
theorem Opens.imp {α : Type} {P : Program} {t : TypeId} {d : Kd α} {wf wf' : α → Prop} (h : Opens P t d wf) (hi : ∀ a, wf a → wf' a) : Opens P t d wf' :=
  ⟨h.1, fun enc w base spare held fuel cs x hx => by
    obtain ⟨a, hK, hw⟩ := h.2 enc w base spare held fuel cs x hx
    exact ⟨a, hK, hi a hw⟩⟩
theorem wf_u32 {n : Int} (h : (Lit.int .u32 n).wf = true) : 0 ≤ n ∧ n ≤ 4294967295 := by
  simp only [Lit.wf, Bool.and_eq_true, decide_eq_true_eq] at h
  exact ⟨h.1, h.2⟩
theorem opens_u32 {P : Program} {t : TypeId} (hc : P.cellsOf t = 1) (ht : P.underlying t = some (.int .u32)) : Opens P t (Kd.int .u32) (fun n => 0 ≤ n ∧ n ≤ 4294967295) := (opens_int hc ht).imp (fun _ h => wf_u32 h)
theorem wf_i64 {n : Int} (h : (Lit.int .i64 n).wf = true) : (-9223372036854775808) ≤ n ∧ n ≤ 9223372036854775807 := by
  simp only [Lit.wf, Bool.and_eq_true, decide_eq_true_eq] at h
  exact ⟨h.1, h.2⟩
theorem opens_i64 {P : Program} {t : TypeId} (hc : P.cellsOf t = 1) (ht : P.underlying t = some (.int .i64)) : Opens P t (Kd.int .i64) (fun n => (-9223372036854775808) ≤ n ∧ n ≤ 9223372036854775807) := (opens_int hc ht).imp (fun _ h => wf_i64 h)

theorem arg_struct {α H : Type} {P : Program} {w : World} {base b0 : Nat} {r : Reach} {spare : Nat → Bool} {held : Bool} {enc : TypeId × Value → H} {t : TypeId} {fs : Array Field} {d : Kd α} {wf : α → Prop} {v : Value} {x : DataW H} {p : List MemPlace}
    (ht : P.underlying t = some (.struct fs)) (hv : Value.okWide P w r b0 t v) (ho : Opens P t d wf) (h : DataW.Trod enc P w base spare held t v x p) : ∃ (cs : List Value) (a : α), v = .agg cs.toArray ∧ d.K w a cs ∧ wf a := by
  obtain ⟨cs, rfl, hsz⟩ := okWide_struct ht hv
  obtain ⟨fuel, hf⟩ := h
  obtain ⟨a, hK, hw⟩ := ho.2 enc w base spare held fuel _ _ hf
  exact ⟨cs.toList, a, by simp, by simpa [Value.cells] using hK, hw⟩
end Go.Proofs.YtnddjndgfaefaaaDoor.Opens
end
section
namespace Go.Proofs.YtnddjndgfaefaaaDoor.F
open Go.RowKit Go.Proofs.YtnddjndgfaefaaaDoorW.PrintWords Go.Proofs.YtnddjndgfaefaaaDoorW.PrintLast Go.Proofs.YtnddjndgfaefaaaDoorW.PrintMore
def ferrylaw09_AluDoes.Pure : Prop :=
  ∀ (a0_0 : ByteArray) (a0_1 : Int) (a0_2 : Int) (a0_3 : Int) (a0_4 : Int) (a0_5 : Int) (a1 : Int) (a2 : Int), (a0_0.size ≤ 9223372036854775807) → ((-9223372036854775808) ≤ a0_1 ∧ a0_1 ≤ 9223372036854775807) → ((-9223372036854775808) ≤ a0_2 ∧ a0_2 ≤ 9223372036854775807) → ((-9223372036854775808) ≤ a0_3 ∧ a0_3 ≤ 9223372036854775807) → ((-9223372036854775808) ≤ a0_4 ∧ a0_4 ≤ 9223372036854775807) → (0 ≤ a0_5 ∧ a0_5 ≤ 4294967295) → (0 ≤ a1 ∧ a1 ≤ 4294967295) → (0 ≤ a2 ∧ a2 ≤ 4294967295) → ∃ k, ferrylaw09_AluDoes.f k a0_0 a0_1 a0_2 a0_3 a0_4 a0_5 a1 a2 = some true
end Go.Proofs.YtnddjndgfaefaaaDoor.F
end
section
namespace Go.Proofs.YtnddjndgfaefaaaDoor.F
open Go.RowKit Go.Proofs.YtnddjndgfaefaaaDoorW.PrintWords Go.Proofs.YtnddjndgfaefaaaDoorW.PrintLast Go.Proofs.YtnddjndgfaefaaaDoorW.PrintMore
theorem u32w (n : Int) : IntKind.u32.wrap n = n % 4294967296 := by simp [IntKind.wrap, IntKind.bits, IntKind.signed]
theorem u64w (n : Int) : IntKind.u64.wrap n = n % 18446744073709551616 := by simp [IntKind.wrap, IntKind.bits, IntKind.signed]
theorem w64_id {n : Int} (h0 : -9223372036854775808 ≤ n) (h1 : n ≤ 9223372036854775807) : wrap64 n = n := by unfold wrap64; omega
theorem u32_keep (n : Int) (h₀ : 0 ≤ n) (h₁ : n < 2 ^ 32) : IntKind.u32.wrap n = n := by rw [u32w]; omega
theorem i64_keep (n : Int) (h₀ : 0 ≤ n) (h₁ : n < 2 ^ 63) : IntKind.i64.wrap n = n := by rw [IntKind.wrap_i64]; omega
theorem mask32 {x : Int} (i : Nat) (hi : i ≤ 32) (h0 : 0 ≤ x) (h1 : x ≤ 4294967295) : Go.bits .and .u32 x (2 ^ i - 1) = x % 2 ^ i := bits_mask .u32 32 (by decide) u32_keep i hi x h0 (by omega)
theorem join32 {x y : Int} (i : Nat) (h0 : 0 ≤ x) (h1 : x ≤ 4294967295) (hx : x % 2 ^ i = 0) (h2 : 0 ≤ y) (h3 : y < 2 ^ i) (h4 : y ≤ 4294967295) : Go.bits .or .u32 x y = x + y := bits_join .u32 32 (by decide) u32_keep i x y h0 hx (by omega) h2 h3 (by omega)
theorem bits_nat32 (a b : Nat) (ha : a < 2 ^ 32) (hb : b < 2 ^ 32) : Go.bits .and .u32 a b = ((a &&& b : Nat) : Int) ∧ Go.bits .or .u32 a b = ((a ||| b : Nat) : Int) ∧ Go.bits .xor .u32 a b = ((a ^^^ b : Nat) : Int) := by
  have h := bits_nat .u32 32 (by decide) u32_keep a b ha hb
  refine ⟨h.1, h.2, ?_⟩
  have ha' : a % 2 ^ 32 = a := Nat.mod_eq_of_lt ha
  have hb' : b % 2 ^ 32 = b := Nat.mod_eq_of_lt hb
  show IntKind.u32.wrap _ = _
  have e : (BitVec.ofInt 32 (a : Int) ^^^ BitVec.ofInt 32 (b : Int)).toNat = a ^^^ b := by
    rw [BitVec.ofInt_natCast, BitVec.ofInt_natCast, BitVec.toNat_xor, BitVec.toNat_ofNat, BitVec.toNat_ofNat, ha', hb']
  show IntKind.u32.wrap (((BitVec.ofInt 32 (a : Int) ^^^ BitVec.ofInt 32 (b : Int)).toNat : Nat) : Int) = _
  rw [e]
  have : a ^^^ b < 2 ^ 32 := Nat.xor_lt_two_pow ha hb
  rw [u32w]
  omega
theorem bits_or_comm (k : IntKind) (x y : Int) : Go.bits .or k x y = Go.bits .or k y x := by
  simp only [Go.bits]
  rw [BitVec.or_comm]
theorem and_mask_i64 (n : Int) (i : Nat) (hi : i ≤ 62) : Go.bits .and .i64 n (2 ^ i - 1) = n % 2 ^ i := by
  have hp : (2 : Nat) ^ i ≤ 2 ^ 62 := Nat.pow_le_pow_right (by decide) hi
  have hpos : 0 < (2 : Nat) ^ i := Nat.two_pow_pos i
  have e0 : ((2 : Int) ^ i - 1) = ((2 ^ i - 1 : Nat) : Int) := by
    rw [Int.natCast_sub hpos]
    simp
  rw [e0]
  show IntKind.i64.wrap (((BitVec.ofInt 64 n &&& BitVec.ofInt 64 ((2 ^ i - 1 : Nat) : Int)).toNat : Nat) : Int) = _
  rw [BitVec.toNat_and, BitVec.ofInt_natCast, BitVec.toNat_ofNat, Nat.mod_eq_of_lt (show 2 ^ i - 1 < 2 ^ 64 by omega), Nat.and_two_pow_sub_one_eq_mod, BitVec.toNat_ofInt]
  have hlt : (n % ((2 ^ 64 : Nat) : Int)).toNat % 2 ^ i < 2 ^ i := Nat.mod_lt _ hpos
  rw [i64_keep _ (by omega) (by omega)]
  have hnn : 0 ≤ n % ((2 ^ 64 : Nat) : Int) := Int.emod_nonneg _ (by decide)
  rw [Int.natCast_emod, Int.toNat_of_nonneg hnn]
  have hd : ((2 ^ i : Nat) : Int) ∣ ((2 ^ 64 : Nat) : Int) := Int.natCast_dvd_natCast.mpr (Nat.pow_dvd_pow 2 (by omega))
  rw [Int.emod_emod_of_dvd _ hd]
  simp
end Go.Proofs.YtnddjndgfaefaaaDoor.F
end
section
namespace Go.Proofs.YtnddjndgfaefaaaDoor.F
set_option linter.unusedVariables false
open Go.RowKit Go.Proofs.YtnddjndgfaefaaaDoorW.PrintWords Go.Proofs.YtnddjndgfaefaaaDoorW.PrintLast Go.Proofs.YtnddjndgfaefaaaDoorW.PrintMore
def sxOf (v : Int) (b : Nat) : Int := if v % 2 ^ b < 2 ^ (b - 1) then v % 2 ^ b else v % 2 ^ b + 4294967296 - 2 ^ b
theorem cases32 {b : Nat} (h0 : 1 ≤ b) (h1 : b ≤ 32) : b = 1 ∨ b = 2 ∨ b = 3 ∨ b = 4 ∨ b = 5 ∨ b = 6 ∨ b = 7 ∨ b = 8 ∨ b = 9 ∨ b = 10 ∨ b = 11 ∨ b = 12 ∨ b = 13 ∨ b = 14 ∨ b = 15 ∨ b = 16 ∨ b = 17 ∨ b = 18 ∨ b = 19 ∨ b = 20 ∨ b = 21 ∨ b = 22 ∨ b = 23 ∨ b = 24 ∨ b = 25 ∨ b = 26 ∨ b = 27 ∨ b = 28 ∨ b = 29 ∨ b = 30 ∨ b = 31 ∨ b = 32 := by omega
theorem shl32 (v : Int) (n : Nat) (h : n ≤ 32) : shl .u32 v n = v * 2 ^ n % 4294967296 := by
  unfold shl
  rw [Int.toNat_natCast, show IntKind.u32.bits = 32 from rfl, Nat.min_eq_left h, u32w]
theorem shr32 (k : IntKind) (hk : k.bits = 32) (v : Int) (n : Nat) (h : n ≤ 32) : shr k v n = v / 2 ^ n := by
  unfold shr
  rw [Int.toNat_natCast, hk, Nat.min_eq_left h]
theorem sext_arith (v : Int) (b : Nat) (h0 : 0 ≤ v) (h1 : v ≤ 4294967295) (hb0 : 1 ≤ b) (hb1 : b ≤ 32) : wrap32 (v * 2 ^ (32 - b) % 4294967296) / 2 ^ (32 - b) % 4294967296 = sxOf v b := by
  unfold wrap32 sxOf
  rcases cases32 hb0 hb1 with rfl | rfl | rfl | rfl | rfl | rfl | rfl | rfl | rfl | rfl | rfl | rfl | rfl | rfl | rfl | rfl | rfl | rfl | rfl | rfl | rfl | rfl | rfl | rfl | rfl | rfl | rfl | rfl | rfl | rfl | rfl | rfl <;> (simp only [Nat.reduceSub, Int.reducePow]; omega)
theorem swap_Sext_spec (v : Int) (b : Nat) (h0 : 0 ≤ v) (h1 : v ≤ 4294967295) (hb0 : 1 ≤ b) (hb1 : b ≤ 32) : swap_Sext.f v b = some (sxOf v b) := by
  unfold swap_Sext.f
  have e : wrap64 (32 - (b : Int)) = ((32 - b : Nat) : Int) := by rw [w64_id (by omega) (by omega)]; omega
  rw [if_neg (by omega), if_neg (by omega), e, if_pos (by omega), shl32 _ _ (by omega), shr32 _ rfl _ _ (by omega), sext_arith v b h0 h1 hb0 hb1]
theorem swap_Sext_out (v b : Int) (h : b < 1 ∨ 32 < b) : swap_Sext.f v b = some v := by
  unfold swap_Sext.f
  by_cases h1 : b < 1
  · rw [if_pos h1]
  rw [if_neg h1, if_pos (by omega)]

def rotOf (v : Int) (n : Nat) : Int := v / 2 ^ n + v % 2 ^ n * 2 ^ (32 - n)
theorem cases31 {n : Nat} (h1 : n < 32) : n = 0 ∨ n = 1 ∨ n = 2 ∨ n = 3 ∨ n = 4 ∨ n = 5 ∨ n = 6 ∨ n = 7 ∨ n = 8 ∨ n = 9 ∨ n = 10 ∨ n = 11 ∨ n = 12 ∨ n = 13 ∨ n = 14 ∨ n = 15 ∨ n = 16 ∨ n = 17 ∨ n = 18 ∨ n = 19 ∨ n = 20 ∨ n = 21 ∨ n = 22 ∨ n = 23 ∨ n = 24 ∨ n = 25 ∨ n = 26 ∨ n = 27 ∨ n = 28 ∨ n = 29 ∨ n = 30 ∨ n = 31 := by omega
theorem and31 (n : Int) : Go.bits .and .i64 n 31 = n % 32 := and_mask_i64 n 5 (by decide)
theorem rot_arith (v : Int) (n : Nat) (h0 : 0 ≤ v) (h1 : v ≤ 4294967295) (hn : n < 32) : Go.bits .or .u32 (v / 2 ^ n) (v * 2 ^ (32 - n) % 4294967296) = rotOf v n := by
  have e : v * 2 ^ (32 - n) % 4294967296 = v % 2 ^ n * 2 ^ (32 - n) := by
    rcases cases31 hn with rfl | rfl | rfl | rfl | rfl | rfl | rfl | rfl | rfl | rfl | rfl | rfl | rfl | rfl | rfl | rfl | rfl | rfl | rfl | rfl | rfl | rfl | rfl | rfl | rfl | rfl | rfl | rfl | rfl | rfl | rfl | rfl <;> (simp only [Nat.reduceSub, Int.reducePow]; omega)
  have b1 : v / 2 ^ n < 2 ^ (32 - n) ∧ 0 ≤ v / 2 ^ n ∧ v / 2 ^ n ≤ 4294967295 := by
    rcases cases31 hn with rfl | rfl | rfl | rfl | rfl | rfl | rfl | rfl | rfl | rfl | rfl | rfl | rfl | rfl | rfl | rfl | rfl | rfl | rfl | rfl | rfl | rfl | rfl | rfl | rfl | rfl | rfl | rfl | rfl | rfl | rfl | rfl <;> (simp only [Nat.reduceSub, Int.reducePow]; omega)
  have b2 : v % 2 ^ n * 2 ^ (32 - n) % 2 ^ (32 - n) = 0 := Int.mul_emod_left _ _
  have b3 : 0 ≤ v * 2 ^ (32 - n) % 4294967296 ∧ v * 2 ^ (32 - n) % 4294967296 ≤ 4294967295 := by omega
  rw [bits_or_comm, join32 (32 - n) b3.1 b3.2 (by rw [e]; exact b2) b1.2.1 b1.1 b1.2.2, e, Int.add_comm]
  rfl
theorem swap_Rot_spec (v n : Int) (h0 : 0 ≤ v) (h1 : v ≤ 4294967295) : swap_Rot.f v n = some (rotOf v (n % 32).toNat) := by
  unfold swap_Rot.f
  rw [and31]
  obtain ⟨m, hm⟩ : ∃ m : Nat, n % 32 = m := ⟨(n % 32).toNat, by omega⟩
  have hm32 : m < 32 := by omega
  rw [hm, Int.toNat_natCast]
  have e : wrap64 (32 - (m : Int)) = ((32 - m : Nat) : Int) := by rw [w64_id (by omega) (by omega)]; omega
  rw [if_pos (by omega), e, if_pos (by omega), shl32 _ _ (by omega), shr32 _ rfl _ _ (by omega), rot_arith v m h0 h1 hm32]
theorem cases31b {b : Nat} (h0 : 1 ≤ b) (h1 : b ≤ 31) : b = 1 ∨ b = 2 ∨ b = 3 ∨ b = 4 ∨ b = 5 ∨ b = 6 ∨ b = 7 ∨ b = 8 ∨ b = 9 ∨ b = 10 ∨ b = 11 ∨ b = 12 ∨ b = 13 ∨ b = 14 ∨ b = 15 ∨ b = 16 ∨ b = 17 ∨ b = 18 ∨ b = 19 ∨ b = 20 ∨ b = 21 ∨ b = 22 ∨ b = 23 ∨ b = 24 ∨ b = 25 ∨ b = 26 ∨ b = 27 ∨ b = 28 ∨ b = 29 ∨ b = 30 ∨ b = 31 := by omega
theorem ref_Sext_spec (k : Nat) (v b : Int) (h0 : 0 ≤ v) (h1 : v ≤ 4294967295) (h2 : -9223372036854775808 ≤ b) (h3 : b ≤ 9223372036854775807) : ferryref01_Sext.f (k + 1) v b = swap_Sext.f v b := by
  unfold ferryref01_Sext.f
  by_cases hb : b < 1
  · rw [if_pos hb, swap_Sext_out v b (.inl hb)]
    simp only [ferryref01_Sext.j0]
    rfl
  rw [if_neg hb]
  simp only [ferryref01_Sext.j0]
  by_cases hb2 : b > 31
  · rw [if_pos (decide_eq_true hb2)]
    by_cases hb3 : 32 < b
    · rw [swap_Sext_out v b (.inr hb3)]
    have e : b = ((32 : Nat) : Int) := by omega
    subst e
    rw [swap_Sext_spec v 32 h0 h1 (by omega) (by omega)]
    unfold sxOf
    simp only [Nat.reduceSub, Int.reducePow]
    split <;> (congr 1; omega)
  rw [if_neg (by rw [decide_eq_true_eq]; exact hb2)]
  obtain ⟨n, rfl⟩ : ∃ n : Nat, b = n := ⟨b.toNat, by omega⟩
  have hn0 : 1 ≤ n := by omega
  have hn1 : n ≤ 31 := by omega
  rw [swap_Sext_spec v n h0 h1 hn0 (by omega)]
  have e1 : IntKind.u64.wrap (n : Int) = ((n : Nat) : Int) := by rw [u64w]; omega
  have e2 : IntKind.u64.wrap (wrap64 ((n : Int) - 1)) = ((n - 1 : Nat) : Int) := by rw [u64w, w64_id (by omega) (by omega)]; omega
  have e3 : (shl .u32 1 (n : Int) - 1) % 4294967296 = 2 ^ n - 1 := by
    rw [shl32 _ _ (by omega)]
    rcases cases31b hn0 hn1 with rfl | rfl | rfl | rfl | rfl | rfl | rfl | rfl | rfl | rfl | rfl | rfl | rfl | rfl | rfl | rfl | rfl | rfl | rfl | rfl | rfl | rfl | rfl | rfl | rfl | rfl | rfl | rfl | rfl | rfl | rfl <;> decide
  rw [e1, e2, if_pos (by omega), if_pos (by omega), e3, mask32 n (by omega) h0 h1, shr32 _ rfl _ _ (by omega)]
  unfold sxOf
  have a1 : v % 2 ^ n / 2 ^ (n - 1) = 1 ↔ ¬ v % 2 ^ n < 2 ^ (n - 1) := by
    rcases cases31b hn0 hn1 with rfl | rfl | rfl | rfl | rfl | rfl | rfl | rfl | rfl | rfl | rfl | rfl | rfl | rfl | rfl | rfl | rfl | rfl | rfl | rfl | rfl | rfl | rfl | rfl | rfl | rfl | rfl | rfl | rfl | rfl | rfl <;> (simp only [Nat.reduceSub, Int.reducePow]; omega)
  have a2 : (4294967295 - (2 ^ n - 1) : Int) % 2 ^ n = 0 ∧ 0 ≤ (4294967295 - (2 ^ n - 1) : Int) ∧ (4294967295 - (2 ^ n - 1) : Int) ≤ 4294967295 := by
    rcases cases31b hn0 hn1 with rfl | rfl | rfl | rfl | rfl | rfl | rfl | rfl | rfl | rfl | rfl | rfl | rfl | rfl | rfl | rfl | rfl | rfl | rfl | rfl | rfl | rfl | rfl | rfl | rfl | rfl | rfl | rfl | rfl | rfl | rfl <;> decide
  have a3 : 0 ≤ v % 2 ^ n ∧ v % 2 ^ n < 2 ^ n ∧ v % 2 ^ n ≤ 4294967295 := by
    rcases cases31b hn0 hn1 with rfl | rfl | rfl | rfl | rfl | rfl | rfl | rfl | rfl | rfl | rfl | rfl | rfl | rfl | rfl | rfl | rfl | rfl | rfl | rfl | rfl | rfl | rfl | rfl | rfl | rfl | rfl | rfl | rfl | rfl | rfl <;> (simp only [Int.reducePow]; omega)
  by_cases hh : v % 2 ^ n < 2 ^ (n - 1)
  · rw [if_neg (fun z => a1.1 z hh), if_pos hh]
  rw [if_pos (a1.2 hh), if_neg hh, bits_or_comm, join32 n a2.2.1 a2.2.2 a2.1 a3.1 a3.2.1 a3.2.2]
  congr 1
  omega
theorem ref_Rot_spec (v n : Int) (h0 : 0 ≤ v) (h1 : v ≤ 4294967295) : ferryref01_Rot.f v n = swap_Rot.f v n := by
  rw [swap_Rot_spec v n h0 h1]
  unfold ferryref01_Rot.f
  have e : Int.tmod (IntKind.u64.wrap n) 32 = ((n % 32).toNat : Int) := by
    rw [u64w, Int.tmod_eq_emod_of_nonneg (Int.emod_nonneg _ (by decide))]
    omega
  rw [e]
  obtain ⟨m, hm⟩ : ∃ m : Nat, (n % 32).toNat = m := ⟨_, rfl⟩
  have hm32 : m < 32 := by omega
  rw [hm]
  by_cases hz : m = 0
  · rw [if_pos (by omega), hz]
    unfold rotOf
    simp only [Int.reducePow]
    congr 1
    omega
  have e2 : IntKind.u64.wrap (32 - (m : Int)) = ((32 - m : Nat) : Int) := by rw [u64w]; omega
  rw [if_neg (by omega), if_pos (by omega), e2, if_pos (by omega), shl32 _ _ (by omega), shr32 _ rfl _ _ (by omega), rot_arith v m h0 h1 hm32]
end Go.Proofs.YtnddjndgfaefaaaDoor.F
end
section
namespace Go.Proofs.YtnddjndgfaefaaaDoor.F
set_option linter.unusedVariables false
open Go.RowKit Go.Proofs.YtnddjndgfaefaaaDoorW.PrintWords Go.Proofs.YtnddjndgfaefaaaDoorW.PrintLast Go.Proofs.YtnddjndgfaefaaaDoorW.PrintMore
theorem nat_of {a : Int} (h0 : 0 ≤ a) (h1 : a ≤ 4294967295) : ∃ x : Nat, a = (x : Int) ∧ x < 4294967296 := ⟨a.toNat, by omega, by omega⟩
theorem bit_xor (p q : Nat) (hp : p < 2) (hq : q < 2) : p ^^^ q = if p = q then 0 else 1 := by
  have h1 : p = 0 ∨ p = 1 := by omega
  have h2 : q = 0 ∨ q = 1 := by omega
  rcases h1 with rfl | rfl <;> rcases h2 with rfl | rfl <;> rfl
theorem bit_and (p q : Nat) (hp : p < 2) (hq : q < 2) : p &&& q = if p = 1 ∧ q = 1 then 1 else 0 := by
  have h1 : p = 0 ∨ p = 1 := by omega
  have h2 : q = 0 ∨ q = 1 := by omega
  rcases h1 with rfl | rfl <;> rcases h2 with rfl | rfl <;> rfl
theorem xor_hi (x y : Nat) : (x ^^^ y) / 2147483648 = (x / 2147483648) ^^^ (y / 2147483648) := by
  have := Nat.shiftRight_xor_distrib (a := x) (b := y) (i := 31)
  simpa [Nat.shiftRight_eq_div_pow] using this
theorem and_hi (x y : Nat) : (x &&& y) / 2147483648 = (x / 2147483648) &&& (y / 2147483648) := by
  have := Nat.shiftRight_and_distrib (a := x) (b := y) (i := 31)
  simpa [Nat.shiftRight_eq_div_pow] using this
theorem xor_lo (x y : Nat) : (x ^^^ y) % 2147483648 = (x % 2147483648) ^^^ (y % 2147483648) := Nat.xor_mod_two_pow (n := 31)
theorem xor_top {a : Int} (h0 : 0 ≤ a) (h1 : a ≤ 4294967295) : Go.bits .xor .u32 a 2147483648 = if a < 2147483648 then a + 2147483648 else a - 2147483648 := by
  obtain ⟨x, rfl, hx⟩ := nat_of h0 h1
  have e := (bits_nat32 x 2147483648 hx (by decide)).2.2
  rw [show ((2147483648 : Nat) : Int) = 2147483648 from rfl] at e
  rw [e]
  have a1 := xor_hi x 2147483648
  have a2 := xor_lo x 2147483648
  rw [show 2147483648 % 2147483648 = 0 from rfl, Nat.xor_zero] at a2
  rw [show 2147483648 / 2147483648 = 1 from rfl, bit_xor (x / 2147483648) 1 (by omega) (by omega)] at a1
  obtain ⟨z, hz⟩ : ∃ z, x ^^^ 2147483648 = z := ⟨_, rfl⟩
  rw [hz] at a1 a2 ⊢
  clear hz e
  by_cases hc : x < 2147483648
  · rw [if_neg (by omega)] at a1
    rw [if_pos (by omega)]
    omega
  rw [if_pos (by omega)] at a1
  rw [if_neg (by omega)]
  omega
theorem w32_of (s : Int) (h0 : 0 ≤ s) (h1 : s ≤ 4294967295) : wrap32 s = if s < 2147483648 then s else s - 4294967296 := by
  unfold wrap32
  split <;> omega
theorem ref_less {a b : Int} (a0 : 0 ≤ a) (a1 : a ≤ 4294967295) (b0 : 0 ≤ b) (b1 : b ≤ 4294967295) : ferryref09_less.f a b = some (decide (wrap32 a < wrap32 b)) := by
  unfold ferryref09_less.f
  rw [xor_top a0 a1, xor_top b0 b1, w32_of a a0 a1, w32_of b b0 b1]
  congr 1
  apply decide_eq_decide.2
  split <;> split <;> omega
def sumOut (a b : Int) : Prop := wrap32 a + wrap32 b < -2147483648 ∨ wrap32 a + wrap32 b > 2147483647
def lessOut (a b : Int) : Prop := wrap32 a - wrap32 b < -2147483648 ∨ wrap32 a - wrap32 b > 2147483647
theorem over_bits (x y z : Nat) (hx : x < 4294967296) (hy : y < 4294967296) (hz : z < 4294967296) :
    (Go.bits .and .u32 (Go.bits .xor .u32 (x : Int) (z : Int)) (Go.bits .xor .u32 (y : Int) (z : Int)) / 2147483648 == 1) = true ↔ x / 2147483648 ≠ z / 2147483648 ∧ y / 2147483648 ≠ z / 2147483648 := by
  rw [(bits_nat32 x z hx hz).2.2, (bits_nat32 y z hy hz).2.2, (bits_nat32 (x ^^^ z) (y ^^^ z) (Nat.xor_lt_two_pow (n := 32) hx hz) (Nat.xor_lt_two_pow (n := 32) hy hz)).1]
  have e := and_hi (x ^^^ z) (y ^^^ z)
  rw [xor_hi, xor_hi, bit_xor (x / 2147483648) (z / 2147483648) (by omega) (by omega), bit_xor (y / 2147483648) (z / 2147483648) (by omega) (by omega), bit_and (if x / 2147483648 = z / 2147483648 then 0 else 1) (if y / 2147483648 = z / 2147483648 then 0 else 1) (by split <;> omega) (by split <;> omega)] at e
  rw [beq_iff_eq]
  generalize (x ^^^ z) &&& (y ^^^ z) = q at e ⊢
  by_cases h1 : x / 2147483648 = z / 2147483648
  · rw [if_pos h1, if_neg (fun h => absurd h.1 (by decide))] at e
    constructor
    · intro h3
      omega
    · intro h3
      exact absurd h1 h3.1
  by_cases h2 : y / 2147483648 = z / 2147483648
  · rw [if_pos h2, if_neg (fun h => absurd h.2 (by decide))] at e
    constructor
    · intro h3
      omega
    · intro h3
      exact absurd h2 h3.2
  · rw [if_neg h1, if_neg h2, if_pos ⟨rfl, rfl⟩] at e
    constructor
    · intro _
      exact ⟨h1, h2⟩
    · intro _
      omega
theorem over_bits2 (x y z : Nat) (hx : x < 4294967296) (hy : y < 4294967296) (hz : z < 4294967296) :
    (Go.bits .and .u32 (Go.bits .xor .u32 (x : Int) (y : Int)) (Go.bits .xor .u32 (x : Int) (z : Int)) / 2147483648 == 1) = true ↔ x / 2147483648 ≠ y / 2147483648 ∧ x / 2147483648 ≠ z / 2147483648 := by
  rw [(bits_nat32 x y hx hy).2.2, (bits_nat32 x z hx hz).2.2, (bits_nat32 (x ^^^ y) (x ^^^ z) (Nat.xor_lt_two_pow (n := 32) hx hy) (Nat.xor_lt_two_pow (n := 32) hx hz)).1]
  have e := and_hi (x ^^^ y) (x ^^^ z)
  rw [xor_hi, xor_hi, bit_xor (x / 2147483648) (y / 2147483648) (by omega) (by omega), bit_xor (x / 2147483648) (z / 2147483648) (by omega) (by omega), bit_and (if x / 2147483648 = y / 2147483648 then 0 else 1) (if x / 2147483648 = z / 2147483648 then 0 else 1) (by split <;> omega) (by split <;> omega)] at e
  rw [beq_iff_eq]
  generalize (x ^^^ y) &&& (x ^^^ z) = q at e ⊢
  by_cases h1 : x / 2147483648 = y / 2147483648
  · rw [if_pos h1, if_neg (fun h => absurd h.1 (by decide))] at e
    constructor
    · intro h3
      omega
    · intro h3
      exact absurd h1 h3.1
  by_cases h2 : x / 2147483648 = z / 2147483648
  · rw [if_pos h2, if_neg (fun h => absurd h.2 (by decide))] at e
    constructor
    · intro h3
      omega
    · intro h3
      exact absurd h2 h3.2
  · rw [if_neg h1, if_neg h2, if_pos ⟨rfl, rfl⟩] at e
    constructor
    · intro _
      exact ⟨h1, h2⟩
    · intro _
      omega
theorem sumOver_iff {a b : Int} (a0 : 0 ≤ a) (a1 : a ≤ 4294967295) (b0 : 0 ≤ b) (b1 : b ≤ 4294967295) : sumOver a b = true ↔ sumOut a b := by
  unfold sumOver sumOut
  rw [w32_of a a0 a1, w32_of b b0 b1]
  obtain ⟨x, rfl, hx⟩ := nat_of a0 a1
  obtain ⟨y, rfl, hy⟩ := nat_of b0 b1
  rw [show ((x : Int) + (y : Int)) % 4294967296 = (((x + y) % 4294967296 : Nat) : Int) from by omega, over_bits x y _ hx hy (by omega)]
  split <;> split <;> omega
theorem lessOver_iff {a b : Int} (a0 : 0 ≤ a) (a1 : a ≤ 4294967295) (b0 : 0 ≤ b) (b1 : b ≤ 4294967295) : lessOver a b = true ↔ lessOut a b := by
  unfold lessOver lessOut
  rw [w32_of a a0 a1, w32_of b b0 b1]
  obtain ⟨x, rfl, hx⟩ := nat_of a0 a1
  obtain ⟨y, rfl, hy⟩ := nat_of b0 b1
  rw [show ((x : Int) - (y : Int)) % 4294967296 = (((x + (4294967296 - y)) % 4294967296 : Nat) : Int) from by omega, over_bits2 x y _ hx hy (by omega)]
  split <;> split <;> omega
theorem ref_sum {a b : Int} (a0 : 0 ≤ a) (a1 : a ≤ 4294967295) (b0 : 0 ≤ b) (b1 : b ≤ 4294967295) : ferryref09_over.f a b false = some (if sumOver a b = true then (0, false) else ((a + b) % 4294967296, true)) := by
  unfold ferryref09_over.f
  have e1 : wrap64 (wrap64 (wrap32 a) + wrap64 (wrap32 b)) = wrap32 a + wrap32 b := by
    rw [w32_of a a0 a1, w32_of b b0 b1]
    unfold wrap64
    split <;> split <;> omega
  rw [e1, if_neg (by decide)]
  have hs := sumOver_iff a0 a1 b0 b1
  by_cases ho : sumOver a b = true
  · rw [if_pos ho]
    rcases hs.1 ho with h | h
    · rw [if_pos h]
    · by_cases h' : wrap32 a + wrap32 b < -2147483648
      · rw [if_pos h']
      · rw [if_neg h', if_pos h]
  rw [if_neg ho]
  have hn := fun h => ho (hs.2 h)
  unfold sumOut at hn
  rw [if_neg (fun h => hn (.inl h)), if_neg (fun h => hn (.inr h))]
  congr 2
  rw [w32_of a a0 a1, w32_of b b0 b1]
  split <;> split <;> omega
theorem ref_diff {a b : Int} (a0 : 0 ≤ a) (a1 : a ≤ 4294967295) (b0 : 0 ≤ b) (b1 : b ≤ 4294967295) : ferryref09_over.f a b true = some (if lessOver a b = true then (0, false) else ((a - b) % 4294967296, true)) := by
  unfold ferryref09_over.f
  have e1 : wrap64 (wrap64 (wrap32 a) + wrap64 (-wrap64 (wrap32 b))) = wrap32 a - wrap32 b := by
    rw [w32_of a a0 a1, w32_of b b0 b1]
    unfold wrap64
    split <;> split <;> omega
  rw [e1, if_pos rfl]
  have hs := lessOver_iff a0 a1 b0 b1
  by_cases ho : lessOver a b = true
  · rw [if_pos ho]
    rcases hs.1 ho with h | h
    · rw [if_pos h]
    · by_cases h' : wrap32 a - wrap32 b < -2147483648
      · rw [if_pos h']
      · rw [if_neg h', if_pos h]
  rw [if_neg ho]
  have hn := fun h => ho (hs.2 h)
  unfold lessOut at hn
  rw [if_neg (fun h => hn (.inl h)), if_neg (fun h => hn (.inr h))]
  congr 2
  rw [w32_of a a0 a1, w32_of b b0 b1]
  split <;> split <;> omega
theorem bits_range (o : BinOp) (ho : o = .and ∨ o = .or ∨ o = .xor) {a b : Int} (a0 : 0 ≤ a) (a1 : a ≤ 4294967295) (b0 : 0 ≤ b) (b1 : b ≤ 4294967295) : 0 ≤ Go.bits o .u32 a b ∧ Go.bits o .u32 a b ≤ 4294967295 := by
  obtain ⟨x, rfl, hx⟩ := nat_of a0 a1
  obtain ⟨y, rfl, hy⟩ := nat_of b0 b1
  have h := bits_nat32 x y hx hy
  rcases ho with rfl | rfl | rfl
  · rw [h.1]
    have : x &&& y ≤ x := Nat.and_le_left
    omega
  · rw [h.2.1]
    have : x ||| y < 2 ^ 32 := Nat.or_lt_two_pow hx hy
    omega
  · rw [h.2.2]
    have : x ^^^ y < 2 ^ 32 := Nat.xor_lt_two_pow hx hy
    omega
theorem bits_not {a : Int} (a0 : 0 ≤ a) (a1 : a ≤ 4294967295) : Go.bits .xor .u32 IntKind.u32.max a = 4294967295 - a := by
  obtain ⟨x, rfl, hx⟩ := nat_of a0 a1
  have e := (bits_nat32 4294967295 x (by decide) hx).2.2
  rw [show IntKind.u32.max = ((4294967295 : Nat) : Int) from rfl, e]
  have h : 4294967295 ^^^ x = 4294967295 - x := by
    have := @BitVec.toNat_not 32 (BitVec.ofNat 32 x)
    rw [BitVec.not_def, BitVec.toNat_xor, BitVec.toNat_ofNat, Nat.mod_eq_of_lt (show x < 2 ^ 32 from hx)] at this
    simpa using this
  rw [h]
  omega
theorem ones_of (n : Nat) (h1 : n ≤ 32) : onesOf (n : Int) = some (2 ^ n - 1) := by
  unfold onesOf
  have e : wrap64 (32 - (n : Int)) = ((32 - n : Nat) : Int) := by rw [w64_id (by omega) (by omega)]; omega
  rw [e, if_pos (by omega), shr32 _ rfl _ _ (by omega)]
  have hc : n = 0 ∨ 1 ≤ n := by omega
  rcases hc with rfl | hc
  · rfl
  · rcases cases32 hc h1 with rfl | rfl | rfl | rfl | rfl | rfl | rfl | rfl | rfl | rfl | rfl | rfl | rfl | rfl | rfl | rfl | rfl | rfl | rfl | rfl | rfl | rfl | rfl | rfl | rfl | rfl | rfl | rfl | rfl | rfl | rfl | rfl <;> rfl
theorem mask_of (n : Nat) (h1 : n ≤ 32) : ferryref09_mask.f (n : Int) = some (2 ^ n - 1) := by
  have hc : n = 0 ∨ 1 ≤ n := by omega
  rcases hc with rfl | hc
  · rfl
  · rcases cases32 hc h1 with rfl | rfl | rfl | rfl | rfl | rfl | rfl | rfl | rfl | rfl | rfl | rfl | rfl | rfl | rfl | rfl | rfl | rfl | rfl | rfl | rfl | rfl | rfl | rfl | rfl | rfl | rfl | rfl | rfl | rfl | rfl | rfl <;> rfl
end Go.Proofs.YtnddjndgfaefaaaDoor.F
end
section
namespace Go.Proofs.YtnddjndgfaefaaaDoor.F
set_option linter.unusedVariables false
open Go.RowKit Go.Proofs.YtnddjndgfaefaaaDoorW.PrintWords Go.Proofs.YtnddjndgfaefaaaDoorW.PrintLast Go.Proofs.YtnddjndgfaefaaaDoorW.PrintMore
theorem and_one {x : Int} (h0 : 0 ≤ x) (h1 : x ≤ 4294967295) : Go.bits .and .u32 x 1 = x % 2 := by
  have := mask32 1 (by decide) h0 h1
  simpa using this
theorem div_le {x : Int} (h0 : 0 ≤ x) (h1 : x ≤ 4294967295) (j : Nat) : 0 ≤ x / 2 ^ j ∧ x / 2 ^ j ≤ 4294967295 := by
  have hp : (0 : Int) < 2 ^ j := Int.pow_pos (by decide)
  exact ⟨Int.ediv_nonneg h0 (Int.le_of_lt hp), Int.le_trans (Int.ediv_le_self _ h0) h1⟩
theorem lead_step (k : Nat) (v is : Int) (n : Nat) (hv : 0 ≤ v) (hv1 : v ≤ 4294967295) (hn : n < 32) :
    ferryref09_lead.l0 (k + 1) v is (n : Int) = if v / 2 ^ (31 - n) % 2 = is then ferryref09_lead.l0 k v is ((n + 1 : Nat) : Int) else some (n : Int) := by
  simp only [ferryref09_lead.l0]
  rw [if_pos (by omega), show (31 - (n : Int)) % 4294967296 = ((31 - n : Nat) : Int) from by omega, shr32 _ rfl _ _ (by omega), and_one (div_le hv hv1 _).1 (div_le hv hv1 _).2, show ((n : Int) + 1) % 4294967296 = ((n + 1 : Nat) : Int) from by omega]
theorem lead_end (k : Nat) (v is : Int) : ferryref09_lead.l0 (k + 1) v is 32 = some 32 := by
  simp only [ferryref09_lead.l0]
  rw [if_neg (by decide)]
theorem lead_run (v is : Int) (hv : 0 ≤ v) (hv1 : v ≤ 4294967295) (m : Nat) (hm : m ≤ 32) (hb : ∀ n, n < m → v / 2 ^ (31 - n) % 2 = is) (he : m < 32 → ¬ v / 2 ^ (31 - m) % 2 = is) :
    ∀ (d k n : Nat), n + d = m → d < k → ferryref09_lead.l0 k v is (n : Int) = some (m : Int)
  | 0, 0, n, _, h => by omega
  | 0, k + 1, n, hn, _ => by
    obtain rfl : n = m := by omega
    by_cases hlt : n < 32
    · rw [lead_step k v is n hv hv1 hlt, if_neg (he hlt)]
    obtain rfl : n = 32 := by omega
    exact lead_end k v is
  | d + 1, 0, n, _, h => by omega
  | d + 1, k + 1, n, hn, hk => by
    rw [lead_step k v is n hv hv1 (by omega), if_pos (hb n (by omega))]
    exact lead_run v is hv hv1 m hm hb he d k (n + 1) (by omega) (by omega)
theorem len_facts (x : Nat) (hx : x < 4294967296) : Lib.bitLen x ≤ 32 ∧ (∀ j, Lib.bitLen x ≤ j → x / 2 ^ j = 0) ∧ (1 ≤ Lib.bitLen x → x / 2 ^ (Lib.bitLen x - 1) = 1) ∧ (x = 0 ↔ Lib.bitLen x = 0) := by
  have hle := Lib.bitLen_le x 32 (by decide) hx
  by_cases h0 : x = 0
  · subst h0
    have hz : Lib.bitLen 0 = 0 := Lib.bitLenAux_zero 64
    rw [hz]
    exact ⟨by decide, fun j _ => Nat.zero_div _, fun h => absurd h (by decide), by simp⟩
  obtain ⟨h1, h2, h3⟩ := Lib.bitLenAux_bounds 64 x (Nat.lt_trans hx (by decide)) h0
  change 1 ≤ Lib.bitLen x at h1
  change 2 ^ (Lib.bitLen x - 1) ≤ x at h2
  change x < 2 ^ Lib.bitLen x at h3
  refine ⟨hle, fun j hj => Nat.div_eq_of_lt (Nat.lt_of_lt_of_le h3 (Nat.pow_le_pow_right (by decide) hj)), fun _ => ?_, by constructor <;> intro h <;> omega⟩
  have hp : 0 < 2 ^ (Lib.bitLen x - 1) := Nat.pow_pos (by decide)
  have e : 2 ^ Lib.bitLen x = 2 ^ (Lib.bitLen x - 1) * 2 := by rw [← Nat.pow_succ]; congr 1; omega
  rw [e] at h3
  have l1 : 1 ≤ x / 2 ^ (Lib.bitLen x - 1) := (Nat.le_div_iff_mul_le hp).2 (by omega)
  have l2 : x / 2 ^ (Lib.bitLen x - 1) < 2 := (Nat.div_lt_iff_lt_mul hp).2 (by omega)
  omega
theorem lead_zero (v : Int) (hv : 0 ≤ v) (hv1 : v ≤ 4294967295) (k : Nat) (hk : 33 < k) : ferryref09_lead.f k v 0 = some (32 - (Lib.bitLen v.toNat : Int)) := by
  obtain ⟨x, rfl, hx⟩ := nat_of hv hv1
  rw [Int.toNat_natCast]
  obtain ⟨f1, f2, f3, f4⟩ := len_facts x hx
  generalize Lib.bitLen x = L at f1 f2 f3 f4
  unfold ferryref09_lead.f
  have e : (32 - (L : Int)) = ((32 - L : Nat) : Int) := by omega
  rw [e]
  refine lead_run (x : Int) 0 hv hv1 (32 - L) (by omega) ?_ ?_ (32 - L) k 0 (by omega) (by omega)
  · intro n hn
    have := f2 (31 - n) (by omega)
    have c : (x : Int) / 2 ^ (31 - n) = ((x / 2 ^ (31 - n) : Nat) : Int) := by push_cast; rfl
    rw [c, this]
    rfl
  · intro hlt
    have := f3 (by omega)
    have c : (x : Int) / 2 ^ (31 - (32 - L)) = ((x / 2 ^ (L - 1) : Nat) : Int) := by rw [show 31 - (32 - L) = L - 1 from by omega]; push_cast; rfl
    rw [c, this]
    decide
theorem not_bit (x j : Nat) (hx : x < 4294967296) (hj : j < 32) : (4294967295 - x) / 2 ^ j % 2 = 1 - x / 2 ^ j % 2 := by
  rcases cases31 hj with rfl | rfl | rfl | rfl | rfl | rfl | rfl | rfl | rfl | rfl | rfl | rfl | rfl | rfl | rfl | rfl | rfl | rfl | rfl | rfl | rfl | rfl | rfl | rfl | rfl | rfl | rfl | rfl | rfl | rfl | rfl | rfl <;> (simp only [Nat.reducePow]; omega)
theorem lead_same (v : Int) (hv : 0 ≤ v) (hv1 : v ≤ 4294967295) : ∀ (k n : Nat), n ≤ 32 → ferryref09_lead.l0 k v 1 (n : Int) = ferryref09_lead.l0 k (4294967295 - v) 0 (n : Int)
  | 0, n, _ => rfl
  | k + 1, n, hn => by
    by_cases hlt : n < 32
    · rw [lead_step k v 1 n hv hv1 hlt, lead_step k (4294967295 - v) 0 n (by omega) (by omega) hlt, lead_same v hv hv1 k (n + 1) (by omega)]
      obtain ⟨x, rfl, hx⟩ := nat_of hv hv1
      have e := not_bit x (31 - n) hx (by omega)
      have c1 : (x : Int) / 2 ^ (31 - n) % 2 = ((x / 2 ^ (31 - n) % 2 : Nat) : Int) := by push_cast; rfl
      have c2 : (4294967295 - (x : Int)) / 2 ^ (31 - n) % 2 = (((4294967295 - x) / 2 ^ (31 - n) % 2 : Nat) : Int) := by rw [show (4294967295 - (x : Int)) = ((4294967295 - x : Nat) : Int) from by omega]; push_cast; rfl
      rw [c1, c2, e]
      have h2 : x / 2 ^ (31 - n) % 2 < 2 := Nat.mod_lt _ (by decide)
      generalize x / 2 ^ (31 - n) % 2 = b at h2
      by_cases hb : b = 1
      · rw [if_pos (by omega), if_pos (by omega)]
      rw [if_neg (by omega), if_neg (by omega)]
    obtain rfl : n = 32 := by omega
    rw [show ((32 : Nat) : Int) = 32 from rfl, lead_end, lead_end]
theorem lead_one (v : Int) (hv : 0 ≤ v) (hv1 : v ≤ 4294967295) (k : Nat) (hk : 33 < k) : ferryref09_lead.f k v 1 = some (32 - (Lib.bitLen (4294967295 - v).toNat : Int)) := by
  have e : ferryref09_lead.f k v 1 = ferryref09_lead.f k (4294967295 - v) 0 := by
    unfold ferryref09_lead.f
    exact lead_same v hv hv1 k 0 (by decide)
  rw [e, lead_zero _ (by omega) (by omega) k hk]
theorem zeros_of (v : Int) (hv : 0 ≤ v) (hv1 : v ≤ 4294967295) : bits_LeadingZeros32.f v = some (32 - (Lib.bitLen v.toNat : Int)) := by
  unfold bits_LeadingZeros32.f
  rw [if_pos ⟨hv, hv1⟩]
def swOf (t : Int) : Int := Go.bits .or .u32 (Go.bits .and .u32 (t / 256) 16711935) ((Go.bits .and .u32 t 16711935 * 256) % 4294967296)
theorem keep_halves (t : Int) (h0 : 0 ≤ t) (h1 : t ≤ 4294967295) : Go.bits .and .u32 t 16711935 = t % 256 + t / 65536 % 256 * 65536 := by
  obtain ⟨x, rfl, hx⟩ := nat_of h0 h1
  rw [show (16711935 : Int) = ((16711935 : Nat) : Int) from rfl, (bits_nat32 x 16711935 hx (by decide)).1]
  have e : x &&& 16711935 = x % 256 + x / 65536 % 256 * 65536 := by
    have hs : (16711935 : Nat) = 2 ^ 16 * 255 + 255 := by decide
    have hx' : x = 2 ^ 16 * (x / 65536) + x % 65536 := by omega
    have key : x &&& 16711935 = 2 ^ 16 * ((x / 65536) &&& 255) + ((x % 65536) &&& 255) := by
      apply Nat.eq_of_testBit_eq
      intro i
      rw [Nat.testBit_and]
      conv => lhs; rw [hx', hs]
      rw [Nat.testBit_two_pow_mul_add _ (by omega : x % 65536 < 2 ^ 16), Nat.testBit_two_pow_mul_add _ (by decide : 255 < 2 ^ 16), Nat.testBit_two_pow_mul_add _ (Nat.lt_of_le_of_lt Nat.and_le_right (by decide) : (x % 65536) &&& 255 < 2 ^ 16)]
      split <;> rw [Nat.testBit_and]
    have m : ∀ y, y &&& 255 = y % 256 := fun y => Nat.and_two_pow_sub_one_eq_mod y 8
    rw [key, m, m]
    omega
  rw [e]
  omega
theorem sw_val (t : Int) (h0 : 0 ≤ t) (h1 : t ≤ 4294967295) : swOf t = t / 256 % 256 + t / 16777216 * 65536 + (t % 256 * 256 + t / 65536 % 256 * 16777216) := by
  unfold swOf
  rw [keep_halves t h0 h1, keep_halves (t / 256) (by omega) (by omega)]
  obtain ⟨x, rfl, hx⟩ := nat_of h0 h1
  have a : ((x : Int) / 256 % 256 + (x : Int) / 256 / 65536 % 256 * 65536) = ((x / 256 % 256 + x / 16777216 * 65536 : Nat) : Int) := by omega
  have b : (((x : Int) % 256 + (x : Int) / 65536 % 256 * 65536) * 256 % 4294967296) = ((x % 256 * 256 + x / 65536 % 256 * 16777216 : Nat) : Int) := by omega
  rw [a, b, (bits_nat32 _ _ (by omega) (by omega)).2.1]
  have hor : (x / 256 % 256 + x / 16777216 * 65536) ||| (x % 256 * 256 + x / 65536 % 256 * 16777216) = x / 256 % 256 + x / 16777216 * 65536 + (x % 256 * 256 + x / 65536 % 256 * 16777216) := by
    have e1 : x / 256 % 256 + x / 16777216 * 65536 = 2 ^ 16 * (x / 16777216) + x / 256 % 256 := by omega
    have e2 : x % 256 * 256 + x / 65536 % 256 * 16777216 = 2 ^ 16 * (2 ^ 8 * (x / 65536 % 256)) + 2 ^ 8 * (x % 256) := by omega
    have o1 : (x / 16777216) ||| (2 ^ 8 * (x / 65536 % 256)) = 2 ^ 8 * (x / 65536 % 256) + x / 16777216 := by
      rw [Nat.or_comm]
      exact (Nat.two_pow_add_eq_or_of_lt (by omega) _).symm
    have o2 : (x / 256 % 256) ||| (2 ^ 8 * (x % 256)) = 2 ^ 8 * (x % 256) + x / 256 % 256 := by
      rw [Nat.or_comm]
      exact (Nat.two_pow_add_eq_or_of_lt (by omega) _).symm
    have key : (2 ^ 16 * (x / 16777216) + x / 256 % 256) ||| (2 ^ 16 * (2 ^ 8 * (x / 65536 % 256)) + 2 ^ 8 * (x % 256)) = 2 ^ 16 * ((x / 16777216) ||| (2 ^ 8 * (x / 65536 % 256))) + ((x / 256 % 256) ||| (2 ^ 8 * (x % 256))) := by
      apply Nat.eq_of_testBit_eq
      intro i
      rw [Nat.testBit_or, Nat.testBit_two_pow_mul_add _ (by omega : x / 256 % 256 < 2 ^ 16), Nat.testBit_two_pow_mul_add _ (by omega : 2 ^ 8 * (x % 256) < 2 ^ 16), Nat.testBit_two_pow_mul_add _ (by rw [o2]; omega : (x / 256 % 256) ||| (2 ^ 8 * (x % 256)) < 2 ^ 16)]
      split <;> rw [Nat.testBit_or]
    rw [e1, e2, key, o1, o2]
    omega
  rw [hor]
  omega
theorem sw_range (t : Int) (h0 : 0 ≤ t) (h1 : t ≤ 4294967295) : 0 ≤ swOf t ∧ swOf t ≤ 4294967295 := by
  rw [sw_val t h0 h1]
  omega
theorem wsbh_of (t : Int) (h0 : 0 ≤ t) (h1 : t ≤ 4294967295) : (bits_ReverseBytes32.f t).bind (fun v => bits_RotateLeft32.f v 16) = some (swOf t) := by
  have r := sw_range t h0 h1
  have e : bits_ReverseBytes32.f t = some (rotOf (swOf t) 16) := by
    unfold bits_ReverseBytes32.f
    change some (Go.bits .or .u32 (swOf t / 65536) (swOf t * 65536 % 4294967296)) = _
    exact congrArg some (rot_arith (swOf t) 16 r.1 r.2 (by decide))
  rw [e, Option.bind_some]
  have r2 : 0 ≤ rotOf (swOf t) 16 ∧ rotOf (swOf t) 16 ≤ 4294967295 := by
    unfold rotOf
    simp only [Nat.reduceSub, Int.reducePow]
    omega
  have b16 : Go.bits .and .u64 (IntKind.u64.wrap 16) 31 = ((16 : Nat) : Int) := by decide
  unfold bits_RotateLeft32.f
  rw [b16, if_pos (by decide), show IntKind.u64.wrap (32 - ((16 : Nat) : Int)) = ((16 : Nat) : Int) from by decide, if_pos (by decide), shl32 _ 16 (by decide), shr32 _ rfl _ 16 (by decide), bits_or_comm]
  have e2 := rot_arith (rotOf (swOf t) 16) 16 r2.1 r2.2 (by decide)
  rw [show 32 - 16 = 16 from rfl] at e2
  rw [e2]
  congr 1
  unfold rotOf
  simp only [Nat.reduceSub, Int.reducePow]
  omega
theorem ref_wsbh (t : Int) (h0 : 0 ≤ t) (h1 : t ≤ 4294967295) : Go.bits .or .u32 ((Go.bits .and .u32 t 4278255360) / 256) (((Go.bits .and .u32 t 16711935) * 256) % 4294967296) = swOf t := by
  unfold swOf
  congr 1
  obtain ⟨x, rfl, hx⟩ := nat_of h0 h1
  rw [show (4278255360 : Int) = ((4278255360 : Nat) : Int) from rfl, (bits_nat32 x 4278255360 hx (by decide)).1, show (16711935 : Int) = ((16711935 : Nat) : Int) from rfl, show (x : Int) / 256 = ((x / 256 : Nat) : Int) from by omega, (bits_nat32 (x / 256) 16711935 (by omega) (by decide)).1]
  have := Nat.shiftRight_and_distrib (a := x) (b := 4278255360) (i := 8)
  simp only [Nat.shiftRight_eq_div_pow, Nat.reducePow, Nat.reduceDiv] at this
  rw [← this]
  omega
end Go.Proofs.YtnddjndgfaefaaaDoor.F
end
section
namespace Go.Proofs.YtnddjndgfaefaaaDoor.F
open Go.RowKit
set_option linter.unusedVariables false
set_option linter.unusedSimpArgs false
theorem or_digit (k a b c e : Nat) (hb : b < 2 ^ k) (he : e < 2 ^ k) : (2 ^ k * a + b) ||| (2 ^ k * c + e) = 2 ^ k * (a ||| c) + (b ||| e) := by
  have hbe : b ||| e < 2 ^ k := Nat.or_lt_two_pow hb he
  apply Nat.eq_of_testBit_eq
  intro j
  rw [Nat.testBit_or, Nat.testBit_two_pow_mul_add a hb, Nat.testBit_two_pow_mul_add c he, Nat.testBit_two_pow_mul_add (a ||| c) hbe]
  split <;> rw [Nat.testBit_or]
def mkW (o s t d a f : Nat) : Nat := 67108864 * o + (2097152 * s + (65536 * t + (2048 * d + (64 * a + f))))
theorem mkW_lt {o s t d a f : Nat} (ho : o < 64) (hs : s < 32) (ht : t < 32) (hd : d < 32) (ha : a < 32) (hf : f < 64) : mkW o s t d a f < 4294967296 := by unfold mkW; omega
theorem mkW_or (o s t d a f o' s' t' d' a' f' : Nat) (hs : s < 32) (ht : t < 32) (hd : d < 32) (ha : a < 32) (hf : f < 64) (hs' : s' < 32) (ht' : t' < 32) (hd' : d' < 32) (ha' : a' < 32) (hf' : f' < 64) :
    mkW o s t d a f ||| mkW o' s' t' d' a' f' = mkW (o ||| o') (s ||| s') (t ||| t') (d ||| d') (a ||| a') (f ||| f') := by
  unfold mkW
  have h1 := or_digit 6 a f a' f' (by omega) (by omega)
  have h2 := or_digit 11 d (64 * a + f) d' (64 * a' + f') (by omega) (by omega)
  have h3 := or_digit 16 t (2048 * d + (64 * a + f)) t' (2048 * d' + (64 * a' + f')) (by omega) (by omega)
  have h4 := or_digit 21 s (65536 * t + (2048 * d + (64 * a + f))) s' (65536 * t' + (2048 * d' + (64 * a' + f'))) (by omega) (by omega)
  have h5 := or_digit 26 o (2097152 * s + (65536 * t + (2048 * d + (64 * a + f)))) o' (2097152 * s' + (65536 * t' + (2048 * d' + (64 * a' + f')))) (by omega) (by omega)
  simp only [Nat.reducePow] at h1 h2 h3 h4 h5
  rw [h5, h4, h3, h2, h1]
theorem mkW_orI {o s t d a f o' s' t' d' a' f' : Nat} (ho : o < 64) (hs : s < 32) (ht : t < 32) (hd : d < 32) (ha : a < 32) (hf : f < 64) (ho' : o' < 64) (hs' : s' < 32) (ht' : t' < 32) (hd' : d' < 32) (ha' : a' < 32) (hf' : f' < 64) :
    Go.bits .or .u32 (mkW o s t d a f : Int) (mkW o' s' t' d' a' f' : Int) = (mkW (o ||| o') (s ||| s') (t ||| t') (d ||| d') (a ||| a') (f ||| f') : Int) := by
  rw [(bits_nat32 _ _ (mkW_lt ho hs ht hd ha hf) (mkW_lt ho' hs' ht' hd' ha' hf')).2.1, mkW_or _ _ _ _ _ _ _ _ _ _ _ _ hs ht hd ha hf hs' ht' hd' ha' hf']
end Go.Proofs.YtnddjndgfaefaaaDoor.F
end
