import Derived.Below
import Derived.Deep.Draws
import Derived.Deep.AppendLies
import Derived.Maps.AppendAt
import Derived.OwnWalk
import Derived.Laws.BytesArg
import Derived.Laws.MakeOwn
import Derived.Laws.OwnMore
import Derived.Deep.OwnRows
import Derived.Tactics
import Derived.Lib.ConvBytes
import Derived.Laws.Slices
import Derived.WalkKit
import Derived.KernelRfl
import Derived.RowKit3
import Derived.Deep.LoopGhost
import Derived.Deep.QuietTactic
import Derived.BigQuiet
import Derived.WideLaws
import Derived.Deep.DeepCutAuto
import Derived.Deep.CutBlock
import Derived.Deep.RegionHeld3
import Derived.Laws.Rows
import Derived.Lib.AppendStr
import Derived.ArgAppend
import Derived.Laws.IdiomCopy
import Derived.RowKit
import Derived.OrdersHeld
import Derived.Laws.BitsLemmas
import Derived.Laws.StructEq
import Derived.OwnWalkIn
import Derived.ProofKit
import Derived.Lib.Hide
import Derived.Shelf.RegionOpen
import Derived.Shelf.Abstract
import Derived.Lib.SliceRun
import Derived.WalkSmall
import Derived.Laws.ResultCell
import Derived.Shelf.Spec.SlicesInsertGrow
import Derived.OpenShut
import Derived.Deep.Slices
import Derived.SizedLaws
import Derived.Test.YtlmmipdgedfboaaZF0
import Derived.Test.YtlmmipdgedfboaaYA0Sorted
import Derived.Test.YtlmmipdgedfboaaYA1Slc
import Derived.Test.YtlmmipdgedfboaaYA3HHost0
import Derived.Test.YtlmmipdgedfboaaYA14
import Derived.Test.YtlmmipdgedfboaaYA16
import Derived.Test.YtlmmipdgedfboaaYA18
import Derived.Test.YtlmmipdgedfboaaYC42
section
namespace Go.Proofs.Ytlmmipdgedfboaa.F
open Go.RowKit Go.Shelf Go.Proofs.YtlmmipdgedfboaaW.PrintWords Go.Proofs.YtlmmipdgedfboaaW.PrintLast Go.Proofs.YtlmmipdgedfboaaW.PrintMore
set_option linter.unusedVariables false
set_option linter.unusedSimpArgs false
theorem put_or (w M V : Nat) (hw : w < 2 ^ 64) (hM : M < 2 ^ 64) (hV : V < 2 ^ 64) (h : V &&& M = V) : Go.bits .or .u64 (Go.bits .andNot .u64 (w : Int) (M : Int)) (V : Int) = (w : Int) - ((w &&& M : Nat) : Int) + (V : Int) := by
  have h1 := bv_andNot (BitVec.ofNat 64 w) (BitVec.ofNat 64 M)
  have e1 : (BitVec.ofNat 64 w &&& BitVec.ofNat 64 M).toNat = w &&& M := by
    rw [BitVec.toNat_and, BitVec.toNat_ofNat, BitVec.toNat_ofNat, Nat.mod_eq_of_lt hw, Nat.mod_eq_of_lt hM]
  rw [e1, BitVec.toNat_ofNat, Nat.mod_eq_of_lt hw] at h1
  have hVM : BitVec.ofNat 64 V &&& BitVec.ofNat 64 M = BitVec.ofNat 64 V := by
    apply BitVec.eq_of_toNat_eq
    rw [BitVec.toNat_and, BitVec.toNat_ofNat, BitVec.toNat_ofNat, Nat.mod_eq_of_lt hV, Nat.mod_eq_of_lt hM, h]
  have hz : (BitVec.ofNat 64 w &&& ~~~BitVec.ofNat 64 M) &&& BitVec.ofNat 64 V = 0#64 := by
    rw [← hVM]
    ext i hi
    simp only [BitVec.getElem_and, BitVec.getElem_not, BitVec.getElem_zero]
    cases (BitVec.ofNat 64 w)[i] <;> cases (BitVec.ofNat 64 M)[i] <;> cases (BitVec.ofNat 64 V)[i] <;> rfl
  have h2 : ((BitVec.ofNat 64 w &&& ~~~BitVec.ofNat 64 M) ||| BitVec.ofNat 64 V).toNat = (BitVec.ofNat 64 w &&& ~~~BitVec.ofNat 64 M).toNat + V := by
    rw [← BitVec.add_eq_or_of_and_eq_zero _ _ hz, BitVec.toNat_add_of_and_eq_zero hz, BitVec.toNat_ofNat, Nat.mod_eq_of_lt hV]
  have hA : Go.bits .andNot .u64 (w : Int) (M : Int) = (((BitVec.ofNat 64 w &&& ~~~BitVec.ofNat 64 M).toNat : Nat) : Int) := by
    show IntKind.u64.wrap (((BitVec.ofInt 64 (w : Int) &&& ~~~BitVec.ofInt 64 (M : Int)).toNat : Nat) : Int) = _
    rw [BitVec.ofInt_natCast, BitVec.ofInt_natCast, u64_keep _ (by omega) (by omega)]
  rw [hA]
  show IntKind.u64.wrap (((BitVec.ofInt 64 (((BitVec.ofNat 64 w &&& ~~~BitVec.ofNat 64 M).toNat : Nat) : Int) ||| BitVec.ofInt 64 (V : Int)).toNat : Nat) : Int) = _
  rw [BitVec.ofInt_natCast, BitVec.ofInt_natCast, BitVec.ofNat_toNat, BitVec.setWidth_eq, h2, u64_keep _ (by omega) (by
    have := (BitVec.ofNat 64 w &&& ~~~BitVec.ofNat 64 M ||| BitVec.ofNat 64 V).isLt
    omega)]
  omega
theorem put64 {w v o m : Nat} (hw : w < 256 ^ 8) (hv : v < 256 ^ m) (ho : o + m ≤ 8) : Go.bits .or .u64 (Go.bits .andNot .u64 (w : Int) (((256 ^ m - 1) * 256 ^ o : Nat) : Int)) ((v * 256 ^ o : Nat) : Int) = ((putIn w o m v : Nat) : Int) := by
  have hp : 256 ^ m * 256 ^ o ≤ (18446744073709551616 : Nat) := by rw [← Nat.pow_add]; exact p256_le (by omega)
  have hpm := pos256 m
  have hpo := pos256 o
  have hM : (256 ^ m - 1) * 256 ^ o < 2 ^ 64 := by
    have : (256 ^ m - 1) * 256 ^ o < 256 ^ m * 256 ^ o := Nat.mul_lt_mul_of_pos_right (by omega) hpo
    omega
  have hV : v * 256 ^ o < 2 ^ 64 := by
    have : v * 256 ^ o < 256 ^ m * 256 ^ o := Nat.mul_lt_mul_of_pos_right hv hpo
    omega
  have hw2 : w < 2 ^ 64 := by rw [p256_8] at hw; exact hw
  have hVM : (v * 256 ^ o) &&& ((256 ^ m - 1) * 256 ^ o) = v * 256 ^ o := by
    rw [← p256 m, ← p256 o, nat_mask_at, Nat.mul_div_cancel _ (Nat.two_pow_pos _), Nat.mod_eq_of_lt (by rw [p256]; exact hv)]
  rw [put_or w _ _ hw2 hM hV hVM]
  have e : w &&& ((256 ^ m - 1) * 256 ^ o) = w / 256 ^ o % 256 ^ m * 256 ^ o := by
    rw [← p256 m, ← p256 o, nat_mask_at]
  have hle : w &&& ((256 ^ m - 1) * 256 ^ o) ≤ w := Nat.and_le_left
  rw [putIn_eq, ← e, Nat.mod_eq_of_lt hv]
  omega
theorem CellsH.wN_eq {m : List SC} (h : CellsH m) (a : Nat) : wrd m (a : Int) = ((wN m a : Nat) : Int) := by
  have := h.bd (a : Int)
  unfold wN
  omega
theorem cells_ext {m m' : List SC} (h : CellsH m) (h' : CellsH m') (e : ∀ a : Nat, a % 8 = 0 → wN m a = wN m' a) : m = m' := by
  refine look_ext clK clV (fun x y h1 h2 => ?_) h.mr h'.mr (fun x hx => ?_) (fun x hx => ?_) (fun a => ?_)
  · obtain ⟨x0, x1⟩ := x
    obtain ⟨y0, y1⟩ := y
    obtain rfl : x0 = y0 := h1
    obtain rfl : x1 = y1 := h2
    rfl
  · have := h.mp x hx
    show x.f1 ≠ 0
    omega
  · have := h'.mp x hx
    show x.f1 ≠ 0
    omega
  · show wrd m a = wrd m' a
    by_cases h0 : 0 ≤ a
    · by_cases h8 : a % 8 = 0
      · obtain ⟨n, rfl⟩ : ∃ n : Nat, a = (n : Int) := ⟨a.toNat, by omega⟩
        rw [h.wN_eq, h'.wN_eq, e n (by omega)]
      · rw [h.off h8, h'.off h8]
    · have hn : ∀ {q : List SC}, CellsH q → wrd q a = 0 := fun hq => look_none clK clV (fun x hx e => by
        have := hq.mp x hx
        have h3 : clK x = x.f0 := rfl
        omega)
      rw [hn h, hn h']
theorem look_app {α : Type} {key val : α → Int} (a : Int) : ∀ (l m : List α), look key val a (l ++ m) = if has key a l = true then look key val a l else look key val a m
  | [], m => rfl
  | x :: l, m => by
    have hc : ∀ q : List α, look key val a (x :: q) = if key x = a then val x else look key val a q := fun _ => rfl
    rw [List.cons_append, hc, hc]
    by_cases h : key x = a
    · rw [if_pos h, if_pos h, if_pos (by unfold has; rw [List.any_cons, decide_eq_true h, Bool.true_or])]
    · rw [if_neg h, if_neg h, look_app a l m]
      unfold has
      rw [List.any_cons, decide_eq_false h, Bool.false_or]
theorem look_filter {α : Type} {key val : α → Int} (p : α → Bool) (a : Int) (hp : ∀ x, key x = a → p x = true) : ∀ (l : List α), look key val a (l.filter p) = look key val a l
  | [] => rfl
  | x :: l => by
    rw [List.filter_cons]
    by_cases h : p x = true
    · rw [if_pos h]
      unfold look
      rw [look_filter p a hp l]
    · rw [if_neg h]
      conv => rhs; unfold look
      rw [if_neg (fun e => h (hp x e)), look_filter p a hp l]
theorem has_none {α : Type} {key : α → Int} {k : Int} {l : List α} (h : ∀ x ∈ l, key x ≠ k) : has key k l = false := by
  cases e : has key k l with
  | false => rfl
  | true =>
    obtain ⟨x, hx, hk⟩ := has_mem.1 e
    exact absurd hk (h x hx)
theorem wrd_setF {m : List SC} (hr : Rises clK m) (a u x : Int) : wrd (setF a u m) x = if x = a then u else wrd m x := by
  unfold setF wrd
  by_cases hx : x = a
  · subst hx
    rw [if_pos rfl]
    split
    · rename_i hu
      rw [look_none clK clV, hu]
      intro y hy
      have := (List.mem_filter.1 hy).2
      simpa using this
    · rw [List.append_assoc, look_app, has_none (fun y hy => by have := take_lowB clK x m y hy; omega), if_neg (by decide), List.singleton_append]
      unfold look
      rw [if_pos rfl]
  · rw [if_neg hx]
    have hf : ∀ l : List SC, look clK clV x (l.filter (fun y => !decide (y.f0 = a))) = look clK clV x l := fun l => look_filter _ _ (fun y hy => by
      have h4 : clK y = y.f0 := rfl
      simp
      omega) l
    split
    · exact hf m
    · rw [List.append_assoc, look_app, List.singleton_append]
      conv => lhs; rhs; unfold look
      rw [if_neg (Ne.symm hx), hf]
      conv => rhs; rw [← List.take_append_drop (lowB clK a m) m]
      rw [look_app]
theorem wrd_setL {m : List SC} (hr : Rises clK m) (a u x : Int) : wrd (setL a u m) x = if x = a then u else wrd m x := by
  rw [setL_setF hr, wrd_setF hr]
end Go.Proofs.Ytlmmipdgedfboaa.F
end
