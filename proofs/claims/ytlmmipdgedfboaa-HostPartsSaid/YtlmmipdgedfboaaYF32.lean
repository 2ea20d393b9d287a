import Derived.Below
import Derived.Deep.Draws
import Derived.Deep.AppendLies
import Derived.Maps.AppendAt
import Derived.OwnWalk
import Derived.Laws.BytesArg
import Derived.Laws.MakeOwn
import Derived.Laws.OwnMore
import Derived.Deep.OwnRows
import Derived.Tactics
import Derived.Lib.ConvBytes
import Derived.Laws.Slices
import Derived.WalkKit
import Derived.KernelRfl
import Derived.RowKit3
import Derived.Deep.LoopGhost
import Derived.Deep.QuietTactic
import Derived.BigQuiet
import Derived.WideLaws
import Derived.Deep.DeepCutAuto
import Derived.Deep.CutBlock
import Derived.Deep.RegionHeld3
import Derived.Laws.Rows
import Derived.Lib.AppendStr
import Derived.ArgAppend
import Derived.Laws.IdiomCopy
import Derived.RowKit
import Derived.OrdersHeld
import Derived.Laws.BitsLemmas
import Derived.Laws.StructEq
import Derived.OwnWalkIn
import Derived.WalkSmall
import Derived.Laws.ResultCell
import Derived.ProofKit
import Derived.Lib.Hide
import Derived.Shelf.RegionOpen
import Derived.Shelf.Abstract
import Derived.Lib.SliceRun
import Derived.Shelf.Spec.SlicesInsertGrow
import Derived.OpenShut
import Derived.Deep.Slices
import Derived.SizedLaws
import Derived.Test.YtlmmipdgedfboaaZF0
import Derived.Test.YtlmmipdgedfboaaYA0
import Derived.Test.YtlmmipdgedfboaaYA1HHost0
import Derived.Test.YtlmmipdgedfboaaYA17
import Derived.Test.YtlmmipdgedfboaaYD22Bytes0
import Derived.Test.YtlmmipdgedfboaaYF30
import Derived.Test.YtlmmipdgedfboaaYF31HHost7
section
namespace Go.Proofs.Ytlmmipdgedfboaa.F
open Go.RowKit Go.Shelf Go.Proofs.YtlmmipdgedfboaaW.PrintWords Go.Proofs.YtlmmipdgedfboaaW.PrintLast Go.Proofs.YtlmmipdgedfboaaW.PrintMore
set_option linter.unusedVariables false
set_option linter.unusedSimpArgs false
theorem pk_lt (m : List SC) (a : Nat) : pk m a < 256 := byteAt_lt _ _
theorem low_u64 {a : Nat} (h : a < 18446744073709551616) : IntKind.u64.wrap ((a : Int) - Int.tmod (a : Int) 8) = ((a - a % 8 : Nat) : Int) := by
  rw [Int.tmod_eq_emod_of_nonneg (by omega), u64w]
  omega
theorem off_u64 {a : Nat} : IntKind.u64.wrap (8 * Int.tmod (a : Int) 8) = ((8 * (a % 8) : Nat) : Int) := by
  rw [Int.tmod_eq_emod_of_nonneg (by omega), u64w]
  omega
theorem ref_Peek (l : List SM) {m : List SC} (h : CellsH m) (hm : m.length ≤ 1000000) {a : Nat} (ha : a < 18446744073709551616) (k : Nat) (hk : m.length < k) : ferryref03_Peek.f k l m (a : Int) = some ((pk m a : Nat) : Int) := by
  unfold ferryref03_Peek.f
  rw [low_u64 ha, off_u64, ref_word _ l m hm k hk, Option.bind_some, if_pos (by omega), h.wN_eq, shr_bytes _ _ (by omega)]
  unfold pk byteAt
  congr 1
end Go.Proofs.Ytlmmipdgedfboaa.F
end
section
namespace Go.Proofs.Ytlmmipdgedfboaa.F
open Go.RowKit Go.Shelf Go.Proofs.YtlmmipdgedfboaaW.PrintWords Go.Proofs.YtlmmipdgedfboaaW.PrintLast Go.Proofs.YtlmmipdgedfboaaW.PrintMore
set_option linter.unusedVariables false
set_option linter.unusedSimpArgs false
theorem host_Clear_spec (l : List SM) (m : List SC) (hm : m.length ≤ 1000000) (a n : Int) : host_Clear.f l m a n = some (l, clearS m a n) := by
  unfold host_Clear.f
  rw [if_pos hm]
  rfl
theorem clrW_zero {y : Nat} (hy : y + 8 ≤ 18446744073709551616) (a n : Nat) : clrW (a : Int) (n : Int) (y : Int) 0 8 = 0 := by
  obtain ⟨q, hq, e, hb⟩ := clrW_spec hy (w := 0) (by decide) a n 8 (Nat.le_refl _)
  rw [show ((0 : Nat) : Int) = 0 from rfl] at e
  rw [e]
  have : q = 0 := word_ext hq (by decide) (fun k hk => by
    rw [hb k hk]
    split
    · unfold byteAt; simp
    · rfl)
  rw [this]
  rfl
theorem look_map {α : Type} {key val : α → Int} (f : α → α) (hf : ∀ x, key (f x) = key x) (g : Int → Int) (y : Int) : ∀ (l : List α), (∀ x ∈ l, key x = y → val (f x) = g (val x)) → g 0 = 0 → look key val y (l.map f) = g (look key val y l)
  | [], _, h0 => h0.symm
  | x :: l, h, h0 => by
    rw [List.map_cons]
    unfold look
    rw [hf]
    by_cases hx : key x = y
    · rw [if_pos hx, if_pos hx]
      exact h x List.mem_cons_self hx
    · rw [if_neg hx, if_neg hx]
      exact look_map f hf g y l (fun z hz => h z (List.mem_cons_of_mem _ hz)) h0
theorem look_nz {α : Type} {key val : α → Int} (y : Int) : ∀ {l : List α}, Rises key l → look key val y (l.filter (fun x => !(val x == 0))) = look key val y l
  | [], _ => rfl
  | x :: l, hr => by
    rw [List.filter_cons]
    have ih := look_nz (val := val) y (rises_tail key hr)
    by_cases hv : val x = 0
    · rw [if_neg (by simp [hv]), ih]
      conv => rhs; unfold look
      by_cases hx : key x = y
      · rw [if_pos hx, hv]
        exact look_none key val (fun z hz => by have := rises_head key hr z hz; omega)
      · rw [if_neg hx]
    · rw [if_pos (by simpa using hv)]
      unfold look
      rw [ih]
theorem wN_clear {m : List SC} (h : CellsH m) (a n : Nat) {y : Nat} (hy : y + 8 ≤ 18446744073709551616) : ∀ k, k < 8 → byteAt (wN (clearS m (a : Int) (n : Int)) y) k = if a ≤ y + k ∧ y + k - a < n then 0 else byteAt (wN m y) k := by
  obtain ⟨q, hq, e, hb⟩ := clrW_spec (w := wN m y) hy (h.wN_lt y) a n 8 (Nat.le_refl _)
  have h1 : wrd (clearS m (a : Int) (n : Int)) (y : Int) = (q : Int) := by
    unfold wrd clearS
    rw [look_nz (key := clK) (val := clV) (y : Int) (rises_map clK _ (clrC_key _ _) h.mr), look_map (key := clK) (val := clV) (clrC (a : Int) (n : Int)) (clrC_key _ _) (fun v => clrW (a : Int) (n : Int) (y : Int) v 8) (y : Int) m (fun x _ hx => by
      show clrW _ _ x.f0 x.f1 8 = _
      rw [show x.f0 = (y : Int) from hx]) (clrW_zero hy a n)]
    show clrW _ _ _ (wrd m (y : Int)) 8 = _
    rw [h.wN_eq]
    exact e
  have h2 : wN (clearS m (a : Int) (n : Int)) y = q := by
    unfold wN
    rw [h1]
    omega
  intro k hk
  rw [h2, hb k hk]
  by_cases h3 : a ≤ y + k ∧ y + k - a < n
  · rw [if_pos ⟨hk, h3⟩, if_pos h3]
  · rw [if_neg (by omega), if_neg h3]
theorem pk_clear {m : List SC} (h : CellsH m) (a n : Nat) {x : Nat} (hx : x < 18446744073709551616) : pk (clearS m (a : Int) (n : Int)) x = if a ≤ x ∧ x - a < n then 0 else pk m x := by
  unfold pk
  rw [wN_clear h a n (by omega) _ (Nat.mod_lt _ (by decide)), show x - x % 8 + x % 8 = x by omega]
end Go.Proofs.Ytlmmipdgedfboaa.F
end
section
namespace Go.Proofs.Ytlmmipdgedfboaa.F
open Go.RowKit Go.Shelf Go.Proofs.YtlmmipdgedfboaaW.PrintWords Go.Proofs.YtlmmipdgedfboaaW.PrintLast Go.Proofs.YtlmmipdgedfboaaW.PrintMore
set_option linter.unusedVariables false
set_option linter.unusedSimpArgs false
theorem byteAt_leN : ∀ (n : Nat) (f : Nat → Nat), (∀ i, i < n → f i < 256) → ∀ k, k < n → byteAt (leN n f) k = f k
  | 0, _, _, k, hk => by omega
  | n + 1, f, h, k, hk => by
    unfold leN
    have h0 := h 0 (by omega)
    have e : f 0 + 256 * leN n (fun i => f (i + 1)) = f 0 + 256 ^ 1 * leN n (fun i => f (i + 1)) := by rw [Nat.pow_one]
    rw [e, byteAt_join (by omega)]
    by_cases hk0 : k < 1
    · rw [if_pos hk0]
      obtain rfl : k = 0 := by omega
      unfold byteAt
      rw [Nat.pow_zero, Nat.div_one, Nat.mod_eq_of_lt h0]
    · rw [if_neg hk0, byteAt_leN n _ (fun i hi => h (i + 1) (by omega)) (k - 1) (by omega)]
      congr 1
      omega
end Go.Proofs.Ytlmmipdgedfboaa.F
end
