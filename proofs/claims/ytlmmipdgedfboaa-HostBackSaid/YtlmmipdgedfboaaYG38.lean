import Derived.Below
import Derived.Deep.Draws
import Derived.Deep.AppendLies
import Derived.Maps.AppendAt
import Derived.OwnWalk
import Derived.Laws.BytesArg
import Derived.Laws.MakeOwn
import Derived.Laws.OwnMore
import Derived.Deep.OwnRows
import Derived.Tactics
import Derived.Lib.ConvBytes
import Derived.Laws.Slices
import Derived.WalkKit
import Derived.KernelRfl
import Derived.RowKit3
import Derived.Deep.LoopGhost
import Derived.Deep.QuietTactic
import Derived.BigQuiet
import Derived.WideLaws
import Derived.Deep.DeepCutAuto
import Derived.Deep.CutBlock
import Derived.Deep.RegionHeld3
import Derived.Laws.Rows
import Derived.Lib.AppendStr
import Derived.ArgAppend
import Derived.Laws.IdiomCopy
import Derived.RowKit
import Derived.OrdersHeld
import Derived.Laws.BitsLemmas
import Derived.Laws.StructEq
import Derived.OwnWalkIn
import Derived.WalkSmall
import Derived.Laws.ResultCell
import Derived.ProofKit
import Derived.Lib.Hide
import Derived.Shelf.RegionOpen
import Derived.Shelf.Abstract
import Derived.Lib.SliceRun
import Derived.Shelf.Spec.SlicesInsertGrow
import Derived.OpenShut
import Derived.Deep.Slices
import Derived.SizedLaws
import Derived.Test.YtlmmipdgedfboaaZF0
import Derived.Test.YtlmmipdgedfboaaYA0
import Derived.Test.YtlmmipdgedfboaaYA1HHost0
import Derived.Test.YtlmmipdgedfboaaYA7Slc
import Derived.Test.YtlmmipdgedfboaaYA10
import Derived.Test.YtlmmipdgedfboaaYA12HHost5
import Derived.Test.YtlmmipdgedfboaaYA13HHost6
import Derived.Test.YtlmmipdgedfboaaYA15
import Derived.Test.YtlmmipdgedfboaaYA17
import Derived.Test.YtlmmipdgedfboaaYC21
import Derived.Test.YtlmmipdgedfboaaYD22Bytes0
import Derived.Test.YtlmmipdgedfboaaYG36
import Derived.Test.YtlmmipdgedfboaaYG37FFerryref03Same
section
namespace Go.Proofs.Ytlmmipdgedfboaa.F
open Go.RowKit Go.Shelf Go.Proofs.YtlmmipdgedfboaaW.PrintWords Go.Proofs.YtlmmipdgedfboaaW.PrintLast Go.Proofs.YtlmmipdgedfboaaW.PrintMore
set_option linter.unusedVariables false
set_option linter.unusedSimpArgs false
def eqL {α : Type} (p : α → α → Bool) : List α → List α → Bool
  | [], [] => true
  | x :: l, y :: m => p x y && eqL p l m
  | _, _ => false
theorem eqL_refl {α : Type} {p : α → α → Bool} (h : ∀ x, p x x = true) : ∀ l : List α, eqL p l l = true
  | [] => rfl
  | x :: l => by
    unfold eqL
    rw [h x, eqL_refl h l]
    rfl
theorem eqL_length {α : Type} {p : α → α → Bool} : ∀ {l m : List α}, eqL p l m = true → l.length = m.length
  | [], [], _ => rfl
  | x :: l, y :: m, h => by
    unfold eqL at h
    rw [Bool.and_eq_true] at h
    simp [eqL_length h.2]
  | [], _ :: _, h => by simp [eqL] at h
  | _ :: _, [], h => by simp [eqL] at h
def eqMp (x y : SM) : Bool := (x.f0 == y.f0) && (x.f1 == y.f1)
def eqCl (x y : SC) : Bool := (x.f0 == y.f0) && (x.f1 == y.f1)
def sameS (l : List SM) (m : List SC) (l' : List SM) (m' : List SC) : Bool := eqL eqMp l l' && eqL eqCl m m'
theorem sameS_refl (l : List SM) (m : List SC) : sameS l m l m = true := by
  unfold sameS
  rw [eqL_refl (fun x => by simp [eqMp]), eqL_refl (fun x => by simp [eqCl])]
  rfl
end Go.Proofs.Ytlmmipdgedfboaa.F
end
section
namespace Go.Proofs.Ytlmmipdgedfboaa.F
open Go.RowKit Go.Shelf Go.Proofs.YtlmmipdgedfboaaW.PrintWords Go.Proofs.YtlmmipdgedfboaaW.PrintLast Go.Proofs.YtlmmipdgedfboaaW.PrintMore
set_option linter.unusedVariables false
set_option linter.unusedSimpArgs false
theorem ref_Same_l1 (l l' : List SM) (m m' : List SC) (e : m.length = m'.length) (hm : m.length ≤ 1000000) : ∀ (k i : Nat), i ≤ m.length → m.length - i < k → ferryref03_Same.l1 k (i : Int) l m l' m' = some (eqL eqCl (m.drop i) (m'.drop i))
  | 0, i, _, h => by omega
  | k + 1, i, hi, h => by
    unfold ferryref03_Same.l1
    by_cases hlt : i < m.length
    · have hw : wrap64 ((i : Int) + 1) = ((i + 1 : Nat) : Int) := by unfold wrap64; omega
      rw [if_pos (by omega), if_pos (by omega), if_pos (by omega), cl_getR hlt, cl_getR (by omega), hw, ref_Same_l1 l l' m m' e hm k (i + 1) hlt (by omega), List.drop_eq_getElem_cons hlt, List.drop_eq_getElem_cons (show i < m'.length by omega)]
      rw [show eqL eqCl (m[i] :: m.drop (i + 1)) (m'[i] :: m'.drop (i + 1)) = (eqCl m[i] m'[i] && eqL eqCl (m.drop (i + 1)) (m'.drop (i + 1))) from rfl]
      unfold eqCl
      cases (m[i].f0 == m'[i].f0) <;> cases (m[i].f1 == m'[i].f1) <;> rfl
    · rw [if_neg (by omega), List.drop_eq_nil_of_le (by omega), List.drop_eq_nil_of_le (by omega)]
      rfl
theorem ref_Same_l0 (l l' : List SM) (m m' : List SC) (e0 : l.length = l'.length) (e : m.length = m'.length) (hl : l.length ≤ 1000000) (hm : m.length ≤ 1000000) : ∀ (k i : Nat), i ≤ l.length → (l.length - i) + m.length + 1 < k → ferryref03_Same.l0 k (i : Int) l m l' m' = some (eqL eqMp (l.drop i) (l'.drop i) && eqL eqCl m m')
  | 0, i, _, h => by omega
  | k + 1, i, hi, h => by
    unfold ferryref03_Same.l0
    by_cases hlt : i < l.length
    · have hw : wrap64 ((i : Int) + 1) = ((i + 1 : Nat) : Int) := by unfold wrap64; omega
      rw [if_pos (by omega), if_pos (by omega), if_pos (by omega), mp_getR hlt, mp_getR (by omega), hw, ref_Same_l0 l l' m m' e0 e hl hm k (i + 1) hlt (by omega), List.drop_eq_getElem_cons hlt, List.drop_eq_getElem_cons (show i < l'.length by omega)]
      rw [show eqL eqMp (l[i] :: l.drop (i + 1)) (l'[i] :: l'.drop (i + 1)) = (eqMp l[i] l'[i] && eqL eqMp (l.drop (i + 1)) (l'.drop (i + 1))) from rfl]
      unfold eqMp
      cases (l[i].f0 == l'[i].f0) <;> cases (l[i].f1 == l'[i].f1) <;> rfl
    · rw [if_neg (by omega), List.drop_eq_nil_of_le (by omega), List.drop_eq_nil_of_le (by omega)]
      exact ref_Same_l1 l l' m m' e hm k 0 (Nat.zero_le _) (by omega)
theorem ref_Same (l : List SM) (m : List SC) (l' : List SM) (m' : List SC) (hl : l.length ≤ 1000000) (hm : m.length ≤ 1000000) (k : Nat) (hk : l.length + m.length + 2 < k) : ferryref03_Same.f k l m l' m' = some (sameS l m l' m') := by
  unfold ferryref03_Same.f
  obtain ⟨k, rfl⟩ : ∃ q, k = q + 1 := ⟨k - 1, by omega⟩
  have hne : ∀ b, ferryref03_Same.j0 (k + 1) b l m l' m' = if b = true then some false else ferryref03_Same.l0 k 0 l m l' m' := fun b => rfl
  unfold sameS
  by_cases e : l.length = l'.length
  · rw [if_pos (by omega), hne]
    by_cases e2 : m.length = m'.length
    · rw [bne_eq_false_iff_eq.2 (by omega), if_neg (by decide)]
      exact ref_Same_l0 l l' m m' e e2 hl hm k 0 (Nat.zero_le _) (by omega)
    · rw [bne_iff_ne.2 (by omega), if_pos rfl]
      cases h : eqL eqCl m m' with
      | false => rw [Bool.and_false]
      | true => exact absurd (eqL_length h) e2
  · rw [if_neg (by omega), hne, if_pos rfl]
    cases h : eqL eqMp l l' with
    | false => rfl
    | true => exact absurd (eqL_length h) e
end Go.Proofs.Ytlmmipdgedfboaa.F
end
section
namespace Go.Proofs.Ytlmmipdgedfboaa.F
open Go.RowKit Go.Shelf Go.Proofs.YtlmmipdgedfboaaW.PrintWords Go.Proofs.YtlmmipdgedfboaaW.PrintLast Go.Proofs.YtlmmipdgedfboaaW.PrintMore
set_option linter.unusedVariables false
set_option linter.unusedSimpArgs false
theorem put_or (w M V : Nat) (hw : w < 2 ^ 64) (hM : M < 2 ^ 64) (hV : V < 2 ^ 64) (h : V &&& M = V) : Go.bits .or .u64 (Go.bits .andNot .u64 (w : Int) (M : Int)) (V : Int) = (w : Int) - ((w &&& M : Nat) : Int) + (V : Int) := by
  have h1 := bv_andNot (BitVec.ofNat 64 w) (BitVec.ofNat 64 M)
  have e1 : (BitVec.ofNat 64 w &&& BitVec.ofNat 64 M).toNat = w &&& M := by
    rw [BitVec.toNat_and, BitVec.toNat_ofNat, BitVec.toNat_ofNat, Nat.mod_eq_of_lt hw, Nat.mod_eq_of_lt hM]
  rw [e1, BitVec.toNat_ofNat, Nat.mod_eq_of_lt hw] at h1
  have hVM : BitVec.ofNat 64 V &&& BitVec.ofNat 64 M = BitVec.ofNat 64 V := by
    apply BitVec.eq_of_toNat_eq
    rw [BitVec.toNat_and, BitVec.toNat_ofNat, BitVec.toNat_ofNat, Nat.mod_eq_of_lt hV, Nat.mod_eq_of_lt hM, h]
  have hz : (BitVec.ofNat 64 w &&& ~~~BitVec.ofNat 64 M) &&& BitVec.ofNat 64 V = 0#64 := by
    rw [← hVM]
    ext i hi
    simp only [BitVec.getElem_and, BitVec.getElem_not, BitVec.getElem_zero]
    cases (BitVec.ofNat 64 w)[i] <;> cases (BitVec.ofNat 64 M)[i] <;> cases (BitVec.ofNat 64 V)[i] <;> rfl
  have h2 : ((BitVec.ofNat 64 w &&& ~~~BitVec.ofNat 64 M) ||| BitVec.ofNat 64 V).toNat = (BitVec.ofNat 64 w &&& ~~~BitVec.ofNat 64 M).toNat + V := by
    rw [← BitVec.add_eq_or_of_and_eq_zero _ _ hz, BitVec.toNat_add_of_and_eq_zero hz, BitVec.toNat_ofNat, Nat.mod_eq_of_lt hV]
  have hA : Go.bits .andNot .u64 (w : Int) (M : Int) = (((BitVec.ofNat 64 w &&& ~~~BitVec.ofNat 64 M).toNat : Nat) : Int) := by
    show IntKind.u64.wrap (((BitVec.ofInt 64 (w : Int) &&& ~~~BitVec.ofInt 64 (M : Int)).toNat : Nat) : Int) = _
    rw [BitVec.ofInt_natCast, BitVec.ofInt_natCast, u64_keep _ (by omega) (by omega)]
  rw [hA]
  show IntKind.u64.wrap (((BitVec.ofInt 64 (((BitVec.ofNat 64 w &&& ~~~BitVec.ofNat 64 M).toNat : Nat) : Int) ||| BitVec.ofInt 64 (V : Int)).toNat : Nat) : Int) = _
  rw [BitVec.ofInt_natCast, BitVec.ofInt_natCast, BitVec.ofNat_toNat, BitVec.setWidth_eq, h2, u64_keep _ (by omega) (by
    have := (BitVec.ofNat 64 w &&& ~~~BitVec.ofNat 64 M ||| BitVec.ofNat 64 V).isLt
    omega)]
  omega
theorem put64 {w v o m : Nat} (hw : w < 256 ^ 8) (hv : v < 256 ^ m) (ho : o + m ≤ 8) : Go.bits .or .u64 (Go.bits .andNot .u64 (w : Int) (((256 ^ m - 1) * 256 ^ o : Nat) : Int)) ((v * 256 ^ o : Nat) : Int) = ((putIn w o m v : Nat) : Int) := by
  have hp : 256 ^ m * 256 ^ o ≤ (18446744073709551616 : Nat) := by rw [← Nat.pow_add]; exact p256_le (by omega)
  have hpm := pos256 m
  have hpo := pos256 o
  have hM : (256 ^ m - 1) * 256 ^ o < 2 ^ 64 := by
    have : (256 ^ m - 1) * 256 ^ o < 256 ^ m * 256 ^ o := Nat.mul_lt_mul_of_pos_right (by omega) hpo
    omega
  have hV : v * 256 ^ o < 2 ^ 64 := by
    have : v * 256 ^ o < 256 ^ m * 256 ^ o := Nat.mul_lt_mul_of_pos_right hv hpo
    omega
  have hw2 : w < 2 ^ 64 := by rw [p256_8] at hw; exact hw
  have hVM : (v * 256 ^ o) &&& ((256 ^ m - 1) * 256 ^ o) = v * 256 ^ o := by
    rw [← p256 m, ← p256 o, nat_mask_at, Nat.mul_div_cancel _ (Nat.two_pow_pos _), Nat.mod_eq_of_lt (by rw [p256]; exact hv)]
  rw [put_or w _ _ hw2 hM hV hVM]
  have e : w &&& ((256 ^ m - 1) * 256 ^ o) = w / 256 ^ o % 256 ^ m * 256 ^ o := by
    rw [← p256 m, ← p256 o, nat_mask_at]
  have hle : w &&& ((256 ^ m - 1) * 256 ^ o) ≤ w := Nat.and_le_left
  rw [putIn_eq, ← e, Nat.mod_eq_of_lt hv]
  omega
theorem cells_ext {m m' : List SC} (h : CellsH m) (h' : CellsH m') (e : ∀ a : Nat, a % 8 = 0 → wN m a = wN m' a) : m = m' := by
  refine look_ext clK clV (fun x y h1 h2 => ?_) h.mr h'.mr (fun x hx => ?_) (fun x hx => ?_) (fun a => ?_)
  · obtain ⟨x0, x1⟩ := x
    obtain ⟨y0, y1⟩ := y
    obtain rfl : x0 = y0 := h1
    obtain rfl : x1 = y1 := h2
    rfl
  · have := h.mp x hx
    show x.f1 ≠ 0
    omega
  · have := h'.mp x hx
    show x.f1 ≠ 0
    omega
  · show wrd m a = wrd m' a
    by_cases h0 : 0 ≤ a
    · by_cases h8 : a % 8 = 0
      · obtain ⟨n, rfl⟩ : ∃ n : Nat, a = (n : Int) := ⟨a.toNat, by omega⟩
        rw [h.wN_eq, h'.wN_eq, e n (by omega)]
      · rw [h.off h8, h'.off h8]
    · have hn : ∀ {q : List SC}, CellsH q → wrd q a = 0 := fun hq => look_none clK clV (fun x hx e => by
        have := hq.mp x hx
        have h3 : clK x = x.f0 := rfl
        omega)
      rw [hn h, hn h']
theorem look_filter {α : Type} {key val : α → Int} (p : α → Bool) (a : Int) (hp : ∀ x, key x = a → p x = true) : ∀ (l : List α), look key val a (l.filter p) = look key val a l
  | [] => rfl
  | x :: l => by
    rw [List.filter_cons]
    by_cases h : p x = true
    · rw [if_pos h]
      unfold look
      rw [look_filter p a hp l]
    · rw [if_neg h]
      conv => rhs; unfold look
      rw [if_neg (fun e => h (hp x e)), look_filter p a hp l]
theorem wrd_setF {m : List SC} (hr : Rises clK m) (a u x : Int) : wrd (setF a u m) x = if x = a then u else wrd m x := by
  unfold setF wrd
  by_cases hx : x = a
  · subst hx
    rw [if_pos rfl]
    split
    · rename_i hu
      rw [look_none clK clV, hu]
      intro y hy
      have := (List.mem_filter.1 hy).2
      simpa using this
    · rw [List.append_assoc, look_app, has_none (fun y hy => by have := take_lowB clK x m y hy; omega), if_neg (by decide), List.singleton_append]
      unfold look
      rw [if_pos rfl]
  · rw [if_neg hx]
    have hf : ∀ l : List SC, look clK clV x (l.filter (fun y => !decide (y.f0 = a))) = look clK clV x l := fun l => look_filter _ _ (fun y hy => by
      have h4 : clK y = y.f0 := rfl
      simp
      omega) l
    split
    · exact hf m
    · rw [List.append_assoc, look_app, List.singleton_append]
      conv => lhs; rhs; unfold look
      rw [if_neg (Ne.symm hx), hf]
      conv => rhs; rw [← List.take_append_drop (lowB clK a m) m]
      rw [look_app]
theorem wrd_setL {m : List SC} (hr : Rises clK m) (a u x : Int) : wrd (setL a u m) x = if x = a then u else wrd m x := by
  rw [setL_setF hr, wrd_setF hr]
end Go.Proofs.Ytlmmipdgedfboaa.F
end
section
namespace Go.Proofs.Ytlmmipdgedfboaa.F
open Go.RowKit Go.Shelf Go.Proofs.YtlmmipdgedfboaaW.PrintWords Go.Proofs.YtlmmipdgedfboaaW.PrintLast Go.Proofs.YtlmmipdgedfboaaW.PrintMore
set_option linter.unusedVariables false
set_option linter.unusedSimpArgs false
theorem pk_ext {m m' : List SC} (h : CellsH m) (h' : CellsH m') (e : ∀ a, pk m a = pk m' a) : m = m' := cells_ext h h' (fun a ha => word_ext (h.wN_lt a) (h'.wN_lt a) (fun k hk => by
  have := e (a + k)
  rwa [pk_at m ha hk, pk_at m' ha hk] at this))
theorem wN_setL {m : List SC} (h : CellsH m) (a u x : Nat) : wN (setL (a : Int) (u : Int) m) x = if x = a then u else wN m x := by
  unfold wN
  rw [wrd_setL h.mr]
  by_cases e : x = a
  · rw [if_pos (by omega), if_pos e, Int.toNat_natCast]
  · rw [if_neg (by omega), if_neg e]
theorem pk_putW {m : List SC} (h : CellsH m) {a o n v : Nat} (h8 : a % 8 = 0) (ho : o + n ≤ 8) (x : Nat) : pk (setL (a : Int) ((putIn (wN m a) o n v : Nat) : Int) m) x = if a + o ≤ x ∧ x < a + o + n then byteAt v (x - (a + o)) else pk m x := by
  unfold pk
  rw [wN_setL h]
  by_cases e : x - x % 8 = a
  · rw [if_pos e, byteAt_putIn, e]
    by_cases h1 : x % 8 < o
    · rw [if_pos h1, if_neg (by omega)]
    · rw [if_neg h1]
      by_cases h2 : x % 8 < o + n
      · rw [if_pos h2, if_pos (by omega)]
        congr 1
        omega
      · rw [if_neg h2, if_neg (by omega)]
  · rw [if_neg e, if_neg (by omega)]
theorem pk_poke {m : List SC} (h : CellsH m) (a b x : Nat) : pk (pokeN m a b) x = if x = a then b % 256 else pk m x := by
  unfold pokeN
  rw [pk_putW h (by omega) (by omega)]
  by_cases e : x = a
  · rw [if_pos (by omega), if_pos e, show x - (a - a % 8 + a % 8) = 0 by omega]
    unfold byteAt
    simp
  · rw [if_neg (by omega), if_neg e]
theorem byteAt_succ (v k : Nat) : byteAt v (k + 1) = byteAt (v / 256) k := by
  have h := byteAt_div v 1 k
  rw [Nat.pow_one] at h
  rw [h, Nat.add_comm]
theorem pk_pokes : ∀ {n : Nat} {m : List SC} (h : CellsH m) {a v : Nat}, a + n ≤ 18446744073709551616 → ∀ x, pk (pokes m a v n) x = if a ≤ x ∧ x < a + n then byteAt v (x - a) else pk m x
  | 0, m, h, a, v, _, x => by rw [if_neg (by omega)]; rfl
  | n + 1, m, h, a, v, ha, x => by
    unfold pokes
    rw [pk_pokes (h.poke (by omega)) (by omega) x, pk_poke h]
    by_cases h1 : a + 1 ≤ x ∧ x < a + 1 + n
    · rw [if_pos h1, if_pos (by omega), show x - a = x - (a + 1) + 1 by omega, byteAt_succ]
    · rw [if_neg h1]
      by_cases h2 : x = a
      · rw [if_pos h2, if_pos (by omega), h2, Nat.sub_self]
        unfold byteAt
        simp
      · rw [if_neg h2, if_neg (by omega)]
end Go.Proofs.Ytlmmipdgedfboaa.F
end
section
namespace Go.Proofs.Ytlmmipdgedfboaa.F
open Go.RowKit Go.Shelf Go.Proofs.YtlmmipdgedfboaaW.PrintWords Go.Proofs.YtlmmipdgedfboaaW.PrintLast Go.Proofs.YtlmmipdgedfboaaW.PrintMore
set_option linter.unusedVariables false
set_option linter.unusedSimpArgs false
theorem stMask_eq {n : Nat} (h1 : 1 ≤ n) (h8 : n ≤ 8) : stMask (n : Int) = ((256 ^ n - 1 : Nat) : Int) := by
  rcases (by omega : n = 1 ∨ n = 2 ∨ n = 3 ∨ n = 4 ∨ n = 5 ∨ n = 6 ∨ n = 7 ∨ n = 8) with rfl | rfl | rfl | rfl | rfl | rfl | rfl | rfl <;> decide +kernel
theorem mask_low {n o : Nat} (h8 : n ≤ 8) (ho : o < 8) : (256 ^ n - 1) * 256 ^ o % 256 ^ 8 = (256 ^ min n (8 - o) - 1) * 256 ^ o := by
  rcases (by omega : o = 0 ∨ o = 1 ∨ o = 2 ∨ o = 3 ∨ o = 4 ∨ o = 5 ∨ o = 6 ∨ o = 7) with rfl | rfl | rfl | rfl | rfl | rfl | rfl | rfl <;>
  rcases (by omega : n = 0 ∨ n = 1 ∨ n = 2 ∨ n = 3 ∨ n = 4 ∨ n = 5 ∨ n = 6 ∨ n = 7 ∨ n = 8) with rfl | rfl | rfl | rfl | rfl | rfl | rfl | rfl | rfl <;> decide +kernel
theorem mask_high {n o : Nat} (h1 : 1 ≤ n) (h8 : n ≤ 8) (ho : o < 8) : ((256 ^ n - 1 : Nat) : Int) / 2 / 2 ^ min (IntKind.u64.wrap (63 - ((8 * o : Nat) : Int))).toNat 64 = ((256 ^ (n - (8 - o)) - 1 : Nat) : Int) := by
  rcases (by omega : o = 0 ∨ o = 1 ∨ o = 2 ∨ o = 3 ∨ o = 4 ∨ o = 5 ∨ o = 6 ∨ o = 7) with rfl | rfl | rfl | rfl | rfl | rfl | rfl | rfl <;>
  rcases (by omega : n = 1 ∨ n = 2 ∨ n = 3 ∨ n = 4 ∨ n = 5 ∨ n = 6 ∨ n = 7 ∨ n = 8) with rfl | rfl | rfl | rfl | rfl | rfl | rfl | rfl <;> decide +kernel
theorem val_low {v o : Nat} (ho : o ≤ 8) : v * 256 ^ o % 256 ^ 8 = v % 256 ^ (8 - o) * 256 ^ o := by
  have h8 : (256 : Nat) ^ 8 = 256 ^ (8 - o) * 256 ^ o := by rw [← Nat.pow_add]; congr 1; omega
  rw [h8, Nat.mul_mod_mul_right]
theorem mask_pos {n : Nat} (h : 0 < n) : 256 ^ n - 1 ≠ (0 : Nat) := by
  have : 256 ^ 1 ≤ (256 : Nat) ^ n := Nat.pow_le_pow_right (by decide) h
  omega
theorem mod_min {v n k : Nat} : v % 256 ^ n % 256 ^ k = v % 256 ^ min n k := by
  rcases Nat.le_total n k with h | h
  · rw [Nat.min_eq_left h, Nat.mod_eq_of_lt]
    exact Nat.lt_of_lt_of_le (Nat.mod_lt _ (pos256 n)) (Nat.pow_le_pow_right (by decide) h)
  · rw [Nat.min_eq_right h, Nat.mod_mod_of_dvd]
    exact Nat.pow_dvd_pow 256 h
theorem stCells_spec (l : List SM) {m : List SC} (h : CellsH m) (hm : m.length ≤ 999000) {a n v : Nat} (n1 : 1 ≤ n) (n8 : n ≤ 8) (ha : a + n ≤ 18446744073709551616) (hv : v < 18446744073709551616) :
    stCells l m ((a - a % 8 : Nat) : Int) ((8 * (a % 8) : Nat) : Int) ((256 ^ n - 1 : Nat) : Int) ((256 ^ (n - (8 - a % 8)) - 1 : Nat) : Int) ((v % 256 ^ n : Nat) : Int) = some (pokes m a v n) := by
  have ho : a % 8 < 8 := Nat.mod_lt _ (by decide)
  have e1 : shl .u64 ((256 ^ n - 1 : Nat) : Int) ((8 * (a % 8) : Nat) : Int) = (((256 ^ min n (8 - a % 8) - 1) * 256 ^ (a % 8) : Nat) : Int) := by
    rw [shl_bytes _ _ (by omega), mask_low n8 ho]
  have e2 : shl .u64 ((v % 256 ^ n : Nat) : Int) ((8 * (a % 8) : Nat) : Int) = ((v % 256 ^ min n (8 - a % 8) * 256 ^ (a % 8) : Nat) : Int) := by
    rw [shl_bytes _ _ (by omega), val_low (by omega), mod_min]
  have hst1 : st1 m ((a - a % 8 : Nat) : Int) ((8 * (a % 8) : Nat) : Int) ((256 ^ n - 1 : Nat) : Int) ((v % 256 ^ n : Nat) : Int) (wrd m ((a - a % 8 : Nat) : Int)) = setL ((a - a % 8 : Nat) : Int) ((putIn (wN m (a - a % 8)) (a % 8) (min n (8 - a % 8)) (v % 256 ^ min n (8 - a % 8)) : Nat) : Int) m := by
    unfold st1
    rw [e1, e2, h.wN_eq, put64 (h.wN_lt _) (Nat.mod_lt _ (pos256 _)) (by omega)]
  have hc1 : CellsH (setL ((a - a % 8 : Nat) : Int) ((putIn (wN m (a - a % 8)) (a % 8) (min n (8 - a % 8)) (v % 256 ^ min n (8 - a % 8)) : Nat) : Int) m) := h.putW (by omega) (by omega) (by omega)
  have hp1 := fun x => pk_putW h (a := a - a % 8) (o := a % 8) (n := min n (8 - a % 8)) (v := v % 256 ^ min n (8 - a % 8)) (by omega) (by omega) x
  have hD := pk_pokes h (v := v) ha
  have hC := CellsH.pokes h (v := v) ha
  unfold stCells
  rw [host_word_spec l m (by omega) h.mr, Option.bind_some, hst1]
  by_cases hh : n - (8 - a % 8) = 0
  · rw [hh, if_neg (by simp)]
    congr 1
    refine pk_ext hc1 hC (fun x => ?_)
    rw [hp1, hD]
    by_cases hx : a ≤ x ∧ x < a + n
    · rw [if_pos (by omega), if_pos hx, show x - (a - a % 8 + a % 8) = x - a by omega, byteAt_mod _ _ _ (by omega)]
    · rw [if_neg (by omega), if_neg hx]
  · have hne := mask_pos (n := n - (8 - a % 8)) (by omega)
    rw [if_pos ⟨by omega, by omega⟩, host_word_spec l m (by omega) h.mr, Option.bind_some]
    congr 1
    have e8 : IntKind.u64.wrap (((a - a % 8 : Nat) : Int) + 8) = ((a - a % 8 + 8 : Nat) : Int) := by rw [u64w]; omega
    have es : min (IntKind.u64.wrap (64 - ((8 * (a % 8) : Nat) : Int))).toNat 64 = 8 * (8 - a % 8) := by rw [u64w]; omega
    have hq : v % 256 ^ n / 256 ^ (8 - a % 8) < 256 ^ (n - (8 - a % 8)) := by
      rw [Nat.div_lt_iff_lt_mul (pos256 _), ← Nat.pow_add, show n - (8 - a % 8) + (8 - a % 8) = n by omega]
      exact Nat.mod_lt _ (pos256 _)
    have e3 : ((v % 256 ^ n : Nat) : Int) / 2 ^ (8 * (8 - a % 8)) = ((v % 256 ^ n / 256 ^ (8 - a % 8) * 256 ^ 0 : Nat) : Int) := by
      rw [Nat.pow_zero, Nat.mul_one, ← p256 (8 - a % 8)]
      simp
    have e4 : ((256 ^ (n - (8 - a % 8)) - 1 : Nat) : Int) = (((256 ^ (n - (8 - a % 8)) - 1) * 256 ^ 0 : Nat) : Int) := by
      rw [Nat.pow_zero, Nat.mul_one]
    have ew : wrd m ((a - a % 8 + 8 : Nat) : Int) = ((wN (setL ((a - a % 8 : Nat) : Int) ((putIn (wN m (a - a % 8)) (a % 8) (min n (8 - a % 8)) (v % 256 ^ min n (8 - a % 8)) : Nat) : Int) m) (a - a % 8 + 8) : Nat) : Int) := by
      rw [wN_setL h, if_neg (by omega), h.wN_eq]
    unfold st2
    rw [e8, es, e3, e4, ew, put64 (hc1.wN_lt _) hq (by omega)]
    refine pk_ext (hc1.putW (by omega) (by omega) (by omega)) hC (fun x => ?_)
    rw [pk_putW hc1 (by omega) (by omega), hp1, hD]
    by_cases hx : a ≤ x ∧ x < a + n
    · rw [if_pos hx]
      by_cases h2 : a - a % 8 + 8 + 0 ≤ x ∧ x < a - a % 8 + 8 + 0 + (n - (8 - a % 8))
      · rw [if_pos h2, byteAt_div, byteAt_mod _ _ _ (by omega)]
        congr 1
        omega
      · rw [if_neg h2, if_pos (by omega), show x - (a - a % 8 + a % 8) = x - a by omega, byteAt_mod _ _ _ (by omega)]
    · rw [if_neg (by omega), if_neg (by omega), if_neg hx]
theorem host_Store_spec (l : List SM) {m : List SC} (h : CellsH m) (hr : Rises mpK l) (hl : l.length ≤ 1000000) (hm : m.length ≤ 999000) {a n v : Int} (a0 : 0 ≤ a) (a1 : a < 18446744073709551616) (v0 : 0 ≤ v) (v1 : v < 18446744073709551616) :
    host_Store.f l m a n v = some (storeS l m a n v) := by
  unfold host_Store.f storeS
  by_cases h1 : n < 1
  · rw [if_pos h1, if_pos (Or.inl h1)]
  rw [if_neg h1]
  by_cases h2 : n > 8
  · rw [if_pos h2, if_pos (Or.inr h2)]
  obtain ⟨N, rfl⟩ : ∃ N : Nat, n = (N : Int) := ⟨n.toNat, by omega⟩
  obtain ⟨A, rfl⟩ : ∃ N : Nat, a = (N : Int) := ⟨a.toNat, by omega⟩
  obtain ⟨V, rfl⟩ : ∃ N : Nat, v = (N : Int) := ⟨v.toNat, by omega⟩
  have a1' : A < 18446744073709551616 := by omega
  rw [if_neg h2, if_neg (show ¬ ((N : Int) < 1 ∨ (N : Int) > 8) by omega), host_ask_spec l m hl hr 2 N (by omega) a0 a1 40 (by omega), Option.bind_some, Int.toNat_natCast, Int.toNat_natCast, Int.toNat_natCast]
  by_cases h3 : (askS l (A : Int) 2 N 0).1 = 0
  · rw [if_pos h3, if_pos h3, if_pos ⟨by omega, (risesB_iff m).2 h.mr⟩]
    obtain ⟨_, h4⟩ := askS_ok a0 a1 (Int.le_refl 0) (by omega) h3
    have h5 := (h4 ((N : Int) - 1) (by omega) (by omega)).1
    rw [andNot7_u64 a1', and7_off a1', stMask_eq (by omega) (by omega), mask_high (by omega) (by omega) (Nat.mod_lt _ (by decide)), and_mask_bytes (by rw [p256_8]; omega) (by omega), stCells_spec l h hm (by omega) (by omega) (by omega) (by omega)]
    rfl
  · rw [if_neg h3, if_neg h3]
end Go.Proofs.Ytlmmipdgedfboaa.F
end
section
namespace Go.Proofs.Ytlmmipdgedfboaa.F
open Go.RowKit Go.Shelf Go.Proofs.YtlmmipdgedfboaaW.PrintWords Go.Proofs.YtlmmipdgedfboaaW.PrintLast Go.Proofs.YtlmmipdgedfboaaW.PrintMore
set_option linter.unusedVariables false
set_option linter.unusedSimpArgs false
theorem askS_where {l : List SM} {a need : Int} : ∀ {r : Nat} {i : Int}, 0 ≤ i → (askS l a need r i).1 ≠ 0 → ∃ j : Int, i ≤ j ∧ j < i + r ∧ (askS l a need r i).2 = (a + j) % 18446744073709551616
  | 0, i, _, h => absurd rfl h
  | r + 1, i, i0, h => by
    unfold askS at h ⊢
    split
    · exact ⟨i, Int.le_refl _, by omega, rfl⟩
    · rename_i h1
      rw [if_neg h1] at h
      split
      · rename_i h2
        rw [if_pos h2] at h
        obtain ⟨j, h3, h4, h5⟩ := askS_where (by omega) h
        exact ⟨j, by omega, by omega, h5⟩
      · exact ⟨i, Int.le_refl _, by omega, rfl⟩
theorem askS_there {l : List SM} {a need : Int} (a0 : 0 ≤ a) : ∀ {r : Nat} {i : Int}, 0 ≤ i → (∀ j : Int, i ≤ j → j < i + r → a + j < 18446744073709551616 ∧ has mpK ((a + j) / 16384) l = true) → (askS l a need r i).1 ≠ 1
  | 0, i, _, _ => show (0 : Int) ≠ 1 by decide
  | r + 1, i, i0, h => by
    obtain ⟨h1, h2⟩ := h i (Int.le_refl _) (by omega)
    have e : (a + i) % 18446744073709551616 = a + i := by omega
    unfold askS
    rw [e, if_neg (by omega)]
    by_cases h3 : faultS l (a + i) need = 0
    · rw [if_pos h3]
      exact askS_there a0 (by omega) (fun j h3 h4 => h j (by omega) (by omega))
    · rw [if_neg h3]
      unfold faultS
      rw [if_pos h2]
      split
      · exact show (2 : Int) ≠ 1 by decide
      · exact show (0 : Int) ≠ 1 by decide
end Go.Proofs.Ytlmmipdgedfboaa.F
end
