import Derived.Below
import Derived.Deep.Draws
import Derived.Deep.AppendLies
import Derived.Maps.AppendAt
import Derived.OwnWalk
import Derived.Laws.BytesArg
import Derived.Laws.MakeOwn
import Derived.Laws.OwnMore
import Derived.Deep.OwnRows
import Derived.Tactics
import Derived.Lib.ConvBytes
import Derived.Laws.Slices
import Derived.WalkKit
import Derived.KernelRfl
import Derived.RowKit3
import Derived.Deep.LoopGhost
import Derived.Deep.QuietTactic
import Derived.BigQuiet
import Derived.WideLaws
import Derived.Deep.DeepCutAuto
import Derived.Deep.CutBlock
import Derived.Deep.RegionHeld3
import Derived.Laws.Rows
import Derived.Lib.AppendStr
import Derived.ArgAppend
import Derived.Laws.IdiomCopy
import Derived.RowKit
import Derived.OrdersHeld
import Derived.Laws.BitsLemmas
import Derived.Laws.StructEq
import Derived.Shelf.Small.Bits
import Derived.Shelf.LaysM
import Derived.Shelf.Strings.Fields
import Derived.Shelf.Strings.Replace
import Derived.Shelf.Strings.SplitShaped
import Derived.Lib.LaidTab
import Derived.Shelf.Abstract
import Derived.RangeFuncRecord
import Derived.ProofKit
import Derived.Lib.Hide
import Derived.Maps.OwnOps
import Derived.OwnWalkIn
import Derived.WalkSmall
import Derived.Laws.ResultCell
import Derived.Shelf.RegionOpen
import Derived.Deep.RegionWith
import Derived.Test.YtnddjndgfaefaaaDoorVZF0
import Derived.Test.YtnddjndgfaefaaaDoorVA3HDecTake
import Derived.Test.YtnddjndgfaefaaaDoorVA10HDecForms
import Derived.Test.YtnddjndgfaefaaaDoorVA14
import Derived.Test.YtnddjndgfaefaaaDoorVA29PDec1
import Derived.Test.YtnddjndgfaefaaaDoorVA32PDec4
section
namespace Go.Proofs.YtnddjndgfaefaaaDoor.F
open Go.RowKit Go.Proofs.YtnddjndgfaefaaaDoorW.PrintWords Go.Proofs.YtnddjndgfaefaaaDoorW.PrintLast Go.Proofs.YtnddjndgfaefaaaDoorW.PrintMore
set_option linter.unusedVariables false
set_option linter.unusedSimpArgs false
theorem W_le (o s t d a f : Nat) : (W o s t d a f : Int) ≤ 4294967295 := by
  have := W_lt o s t d a f
  omega
def keyD (o s t a f : Nat) : Nat × Nat × Nat := (o, if o = 1 then t else if o = 0 ∨ o = 28 ∨ o = 31 then f else 0, if o = 0 then (if f = 2 then s else if f = 6 then a else 0) else if o = 31 then (if f = 32 then a else 0) else 0)
def keyW (w : Int) : Nat × Nat × Nat := keyD (w.toNat / 67108864) (w.toNat / 2097152 % 32) (w.toNat / 65536 % 32) (w.toNat / 64 % 32) (w.toNat % 64)
theorem keyW_W (o s t d a f : Nat) : keyW (W o s t d a f : Int) = keyD (o % 64) (s % 32) (t % 32) (a % 32) (f % 64) := by
  have h : (W o s t d a f : Int).toNat = 67108864 * (o % 64) + (2097152 * (s % 32) + (65536 * (t % 32) + (2048 * (d % 32) + (64 * (a % 32) + f % 64)))) := by
    rw [W_val]
    omega
  unfold keyW
  rw [h]
  have h1 : (67108864 * (o % 64) + (2097152 * (s % 32) + (65536 * (t % 32) + (2048 * (d % 32) + (64 * (a % 32) + f % 64))))) / 67108864 = o % 64 := by omega
  have h2 : (67108864 * (o % 64) + (2097152 * (s % 32) + (65536 * (t % 32) + (2048 * (d % 32) + (64 * (a % 32) + f % 64))))) / 2097152 % 32 = s % 32 := by omega
  have h3 : (67108864 * (o % 64) + (2097152 * (s % 32) + (65536 * (t % 32) + (2048 * (d % 32) + (64 * (a % 32) + f % 64))))) / 65536 % 32 = t % 32 := by omega
  have h4 : (67108864 * (o % 64) + (2097152 * (s % 32) + (65536 * (t % 32) + (2048 * (d % 32) + (64 * (a % 32) + f % 64))))) / 64 % 32 = a % 32 := by omega
  have h5 : (67108864 * (o % 64) + (2097152 * (s % 32) + (65536 * (t % 32) + (2048 * (d % 32) + (64 * (a % 32) + f % 64))))) % 64 = f % 64 := by omega
  rw [h1, h2, h3, h4, h5]
def keyF (form : List UInt8) (op sub : Nat) : Nat × Nat × Nat := keyD op (if form = [100, 116, 114] then 1 else 0) sub (if form = [100, 116, 118] then 1 else if form = [100, 116] then sub / 64 else 0) (sub % 64)
def keyOKn (im rA rB rC : Bool) (op sub : Nat) : Bool := (!(op == 0 || op == 28 || op == 31) || !im) && (!(op == 0 && sub == 2) || rA) && (!(op == 0 && sub == 6) || rB) && (!(op == 31 && sub % 64 == 32) || rC) && (!(op == 0) || decide (sub < 64))
def keyOK (form : List UInt8) (op sub : Nat) : Bool := keyOKn ([[115, 111], [106], [115, 116, 111], [116, 115, 105], [116, 105], [116, 109]].contains form) (form == [100, 116, 97] || form == [100, 116, 114]) (form == [100, 116, 115] || form == [100, 116, 118]) (form == [100, 116]) op sub
theorem keyOK_parts (im rA rB rC : Bool) (op sub : Nat) (h : keyOKn im rA rB rC op sub = true) : (im = true → op ≠ 0 ∧ op ≠ 28 ∧ op ≠ 31) ∧ (rA = false → op = 0 → sub ≠ 2) ∧ (rB = false → op = 0 → sub ≠ 6) ∧ (rC = false → op = 31 → sub % 64 ≠ 32) ∧ (op = 0 → sub < 64) := by
  unfold keyOKn at h
  cases im <;> cases rA <;> cases rB <;> cases rC <;> simp at h ⊢ <;> omega
theorem rows_key : decRows.all (fun x => keyOK x.f3.toList x.f1.toNat x.f2.toNat) = true := by decide +kernel
def keyRow (x : S51) : Nat × Nat × Nat := keyF x.f3.toList x.f1.toNat x.f2.toNat
theorem key_dta (n : Nums) (op sub : Nat) (ho : op < 64) (h1' : op ≠ 1) (hs : sub < 64) (hk : keyOK [100, 116, 97] op sub = true) (h0 : 0 ≤ n.i) (h1 : n.i ≤ 4294967295) : keyW (layAll ([100, 116, 97], [100, 116, 97], 0, 16) (op : Int) (sub : Int) n) = keyF [100, 116, 97] op sub ∧ (layAll ([100, 116, 97], [100, 116, 97], 0, 16) (op : Int) (sub : Int) n) / 67108864 = (op : Int) ∧ 0 ≤ layAll ([100, 116, 97], [100, 116, 97], 0, 16) (op : Int) (sub : Int) n ∧ layAll ([100, 116, 97], [100, 116, 97], 0, 16) (op : Int) (sub : Int) n ≤ 4294967295 := by
  rw [lay_dta op sub ho h1' (by omega) n]
  refine ⟨?_, by rw [W_val]; omega, by omega, W_le _ _ _ _ _ _⟩
  rw [keyW_W]
  rw [Nat.mod_eq_of_lt ho]
  unfold keyF
  have hk' : keyOKn false true false false op sub = true := hk
  obtain ⟨k1, k2, k3, k4, k5⟩ := keyOK_parts _ _ _ _ _ _ hk'
  clear k1
  clear k2
  replace k3 := k3 rfl
  replace k4 := k4 rfl
  rw [if_neg (by decide), if_neg (by decide), if_neg (by decide)]
  unfold keyD
  refine Prod.ext (by first | rfl | omega) (Prod.ext ?_ ?_)
  · dsimp only
    repeat' split
    all_goals first | rfl | omega
  · dsimp only
    repeat' split
    all_goals first | rfl | omega
theorem key_dts (n : Nums) (op sub : Nat) (ho : op < 64) (h1' : op ≠ 1) (hs : sub < 64) (hk : keyOK [100, 116, 115] op sub = true) (h0 : 0 ≤ n.i) (h1 : n.i ≤ 4294967295) : keyW (layAll ([100, 116, 115], [100, 116, 115], 0, 16) (op : Int) (sub : Int) n) = keyF [100, 116, 115] op sub ∧ (layAll ([100, 116, 115], [100, 116, 115], 0, 16) (op : Int) (sub : Int) n) / 67108864 = (op : Int) ∧ 0 ≤ layAll ([100, 116, 115], [100, 116, 115], 0, 16) (op : Int) (sub : Int) n ∧ layAll ([100, 116, 115], [100, 116, 115], 0, 16) (op : Int) (sub : Int) n ≤ 4294967295 := by
  rw [lay_dts op sub ho h1' (by omega) n]
  refine ⟨?_, by rw [W_val]; omega, by omega, W_le _ _ _ _ _ _⟩
  rw [keyW_W]
  rw [Nat.mod_eq_of_lt ho]
  unfold keyF
  have hk' : keyOKn false false true false op sub = true := hk
  obtain ⟨k1, k2, k3, k4, k5⟩ := keyOK_parts _ _ _ _ _ _ hk'
  clear k1
  replace k2 := k2 rfl
  clear k3
  replace k4 := k4 rfl
  rw [if_neg (by decide), if_neg (by decide), if_neg (by decide)]
  unfold keyD
  refine Prod.ext (by first | rfl | omega) (Prod.ext ?_ ?_)
  · dsimp only
    repeat' split
    all_goals first | rfl | omega
  · dsimp only
    repeat' split
    all_goals first | rfl | omega
theorem key_s (n : Nums) (op sub : Nat) (ho : op < 64) (h1' : op ≠ 1) (hs : sub < 64) (hk : keyOK [115] op sub = true) (h0 : 0 ≤ n.i) (h1 : n.i ≤ 4294967295) : keyW (layAll ([115], [115], 0, 16) (op : Int) (sub : Int) n) = keyF [115] op sub ∧ (layAll ([115], [115], 0, 16) (op : Int) (sub : Int) n) / 67108864 = (op : Int) ∧ 0 ≤ layAll ([115], [115], 0, 16) (op : Int) (sub : Int) n ∧ layAll ([115], [115], 0, 16) (op : Int) (sub : Int) n ≤ 4294967295 := by
  rw [lay_s op sub ho h1' (by omega) n]
  refine ⟨?_, by rw [W_val]; omega, by omega, W_le _ _ _ _ _ _⟩
  rw [keyW_W]
  rw [Nat.mod_eq_of_lt ho]
  unfold keyF
  have hk' : keyOKn false false false false op sub = true := hk
  obtain ⟨k1, k2, k3, k4, k5⟩ := keyOK_parts _ _ _ _ _ _ hk'
  clear k1
  replace k2 := k2 rfl
  replace k3 := k3 rfl
  replace k4 := k4 rfl
  rw [if_neg (by decide), if_neg (by decide), if_neg (by decide)]
  unfold keyD
  refine Prod.ext (by first | rfl | omega) (Prod.ext ?_ ?_)
  · dsimp only
    repeat' split
    all_goals first | rfl | omega
  · dsimp only
    repeat' split
    all_goals first | rfl | omega
theorem key_ds (n : Nums) (op sub : Nat) (ho : op < 64) (h1' : op ≠ 1) (hs : sub < 64) (hk : keyOK [100, 115] op sub = true) (h0 : 0 ≤ n.i) (h1 : n.i ≤ 4294967295) : keyW (layAll ([100, 115], [100, 115], 0, 16) (op : Int) (sub : Int) n) = keyF [100, 115] op sub ∧ (layAll ([100, 115], [100, 115], 0, 16) (op : Int) (sub : Int) n) / 67108864 = (op : Int) ∧ 0 ≤ layAll ([100, 115], [100, 115], 0, 16) (op : Int) (sub : Int) n ∧ layAll ([100, 115], [100, 115], 0, 16) (op : Int) (sub : Int) n ≤ 4294967295 := by
  rw [lay_ds op sub ho h1' (by omega) n]
  refine ⟨?_, by rw [W_val]; omega, by omega, W_le _ _ _ _ _ _⟩
  rw [keyW_W]
  rw [Nat.mod_eq_of_lt ho]
  unfold keyF
  have hk' : keyOKn false false false false op sub = true := hk
  obtain ⟨k1, k2, k3, k4, k5⟩ := keyOK_parts _ _ _ _ _ _ hk'
  clear k1
  replace k2 := k2 rfl
  replace k3 := k3 rfl
  replace k4 := k4 rfl
  rw [if_neg (by decide), if_neg (by decide), if_neg (by decide)]
  unfold keyD
  refine Prod.ext (by first | rfl | omega) (Prod.ext ?_ ?_)
  · dsimp only
    repeat' split
    all_goals first | rfl | omega
  · dsimp only
    repeat' split
    all_goals first | rfl | omega
theorem key_dst (n : Nums) (op sub : Nat) (ho : op < 64) (h1' : op ≠ 1) (hs : sub < 64) (hk : keyOK [100, 115, 116] op sub = true) (h0 : 0 ≤ n.i) (h1 : n.i ≤ 4294967295) : keyW (layAll ([100, 115, 116], [100, 115, 116], 0, 16) (op : Int) (sub : Int) n) = keyF [100, 115, 116] op sub ∧ (layAll ([100, 115, 116], [100, 115, 116], 0, 16) (op : Int) (sub : Int) n) / 67108864 = (op : Int) ∧ 0 ≤ layAll ([100, 115, 116], [100, 115, 116], 0, 16) (op : Int) (sub : Int) n ∧ layAll ([100, 115, 116], [100, 115, 116], 0, 16) (op : Int) (sub : Int) n ≤ 4294967295 := by
  rw [lay_dst op sub ho h1' (by omega) n]
  refine ⟨?_, by rw [W_val]; omega, by omega, W_le _ _ _ _ _ _⟩
  rw [keyW_W]
  rw [Nat.mod_eq_of_lt ho]
  unfold keyF
  have hk' : keyOKn false false false false op sub = true := hk
  obtain ⟨k1, k2, k3, k4, k5⟩ := keyOK_parts _ _ _ _ _ _ hk'
  clear k1
  replace k2 := k2 rfl
  replace k3 := k3 rfl
  replace k4 := k4 rfl
  rw [if_neg (by decide), if_neg (by decide), if_neg (by decide)]
  unfold keyD
  refine Prod.ext (by first | rfl | omega) (Prod.ext ?_ ?_)
  · dsimp only
    repeat' split
    all_goals first | rfl | omega
  · dsimp only
    repeat' split
    all_goals first | rfl | omega
theorem key_c (n : Nums) (op sub : Nat) (ho : op < 64) (h1' : op ≠ 1) (hs : sub < 64) (hk : keyOK [99] op sub = true) (h0 : 0 ≤ n.i) (h1 : n.i ≤ 4294967295) : keyW (layAll ([99], [105], 6, 20) (op : Int) (sub : Int) n) = keyF [99] op sub ∧ (layAll ([99], [105], 6, 20) (op : Int) (sub : Int) n) / 67108864 = (op : Int) ∧ 0 ≤ layAll ([99], [105], 6, 20) (op : Int) (sub : Int) n ∧ layAll ([99], [105], 6, 20) (op : Int) (sub : Int) n ≤ 4294967295 := by
  rw [lay_c op sub ho h1' (by omega) n h0 h1]
  refine ⟨?_, by rw [W_val]; omega, by omega, W_le _ _ _ _ _ _⟩
  rw [keyW_W]
  rw [Nat.mod_eq_of_lt ho]
  unfold keyF
  have hk' : keyOKn false false false false op sub = true := hk
  obtain ⟨k1, k2, k3, k4, k5⟩ := keyOK_parts _ _ _ _ _ _ hk'
  clear k1
  replace k2 := k2 rfl
  replace k3 := k3 rfl
  replace k4 := k4 rfl
  rw [if_neg (by decide), if_neg (by decide), if_neg (by decide)]
  unfold keyD
  refine Prod.ext (by first | rfl | omega) (Prod.ext ?_ ?_)
  · dsimp only
    repeat' split
    all_goals first | rfl | omega
  · dsimp only
    repeat' split
    all_goals first | rfl | omega
theorem key_d (n : Nums) (op sub : Nat) (ho : op < 64) (h1' : op ≠ 1) (hs : sub < 64) (hk : keyOK [100] op sub = true) (h0 : 0 ≤ n.i) (h1 : n.i ≤ 4294967295) : keyW (layAll ([100], [100], 0, 16) (op : Int) (sub : Int) n) = keyF [100] op sub ∧ (layAll ([100], [100], 0, 16) (op : Int) (sub : Int) n) / 67108864 = (op : Int) ∧ 0 ≤ layAll ([100], [100], 0, 16) (op : Int) (sub : Int) n ∧ layAll ([100], [100], 0, 16) (op : Int) (sub : Int) n ≤ 4294967295 := by
  rw [lay_d op sub ho h1' (by omega) n]
  refine ⟨?_, by rw [W_val]; omega, by omega, W_le _ _ _ _ _ _⟩
  rw [keyW_W]
  rw [Nat.mod_eq_of_lt ho]
  unfold keyF
  have hk' : keyOKn false false false false op sub = true := hk
  obtain ⟨k1, k2, k3, k4, k5⟩ := keyOK_parts _ _ _ _ _ _ hk'
  clear k1
  replace k2 := k2 rfl
  replace k3 := k3 rfl
  replace k4 := k4 rfl
  rw [if_neg (by decide), if_neg (by decide), if_neg (by decide)]
  unfold keyD
  refine Prod.ext (by first | rfl | omega) (Prod.ext ?_ ?_)
  · dsimp only
    repeat' split
    all_goals first | rfl | omega
  · dsimp only
    repeat' split
    all_goals first | rfl | omega
theorem key_st (n : Nums) (op sub : Nat) (ho : op < 64) (h1' : op ≠ 1) (hs : sub < 64) (hk : keyOK [115, 116] op sub = true) (h0 : 0 ≤ n.i) (h1 : n.i ≤ 4294967295) : keyW (layAll ([115, 116], [115, 116], 0, 16) (op : Int) (sub : Int) n) = keyF [115, 116] op sub ∧ (layAll ([115, 116], [115, 116], 0, 16) (op : Int) (sub : Int) n) / 67108864 = (op : Int) ∧ 0 ≤ layAll ([115, 116], [115, 116], 0, 16) (op : Int) (sub : Int) n ∧ layAll ([115, 116], [115, 116], 0, 16) (op : Int) (sub : Int) n ≤ 4294967295 := by
  rw [lay_st op sub ho h1' (by omega) n]
  refine ⟨?_, by rw [W_val]; omega, by omega, W_le _ _ _ _ _ _⟩
  rw [keyW_W]
  rw [Nat.mod_eq_of_lt ho]
  unfold keyF
  have hk' : keyOKn false false false false op sub = true := hk
  obtain ⟨k1, k2, k3, k4, k5⟩ := keyOK_parts _ _ _ _ _ _ hk'
  clear k1
  replace k2 := k2 rfl
  replace k3 := k3 rfl
  replace k4 := k4 rfl
  rw [if_neg (by decide), if_neg (by decide), if_neg (by decide)]
  unfold keyD
  refine Prod.ext (by first | rfl | omega) (Prod.ext ?_ ?_)
  · dsimp only
    repeat' split
    all_goals first | rfl | omega
  · dsimp only
    repeat' split
    all_goals first | rfl | omega
theorem key_dtr (n : Nums) (op sub : Nat) (ho : op < 64) (h1' : op ≠ 1) (hs : sub < 64) (hk : keyOK [100, 116, 114] op sub = true) (h0 : 0 ≤ n.i) (h1 : n.i ≤ 4294967295) : keyW (layAll ([100, 116, 114], [100, 116, 97], 0, 16) (op : Int) (sub : Int) n) = keyF [100, 116, 114] op sub ∧ (layAll ([100, 116, 114], [100, 116, 97], 0, 16) (op : Int) (sub : Int) n) / 67108864 = (op : Int) ∧ 0 ≤ layAll ([100, 116, 114], [100, 116, 97], 0, 16) (op : Int) (sub : Int) n ∧ layAll ([100, 116, 114], [100, 116, 97], 0, 16) (op : Int) (sub : Int) n ≤ 4294967295 := by
  rw [lay_dtr op sub ho h1' (by omega) n]
  refine ⟨?_, by rw [W_val]; omega, by omega, W_le _ _ _ _ _ _⟩
  rw [keyW_W]
  rw [Nat.mod_eq_of_lt ho]
  unfold keyF
  have hk' : keyOKn false true false false op sub = true := hk
  obtain ⟨k1, k2, k3, k4, k5⟩ := keyOK_parts _ _ _ _ _ _ hk'
  clear k1
  clear k2
  replace k3 := k3 rfl
  replace k4 := k4 rfl
  rw [if_pos rfl, if_neg (by decide), if_neg (by decide)]
  unfold keyD
  refine Prod.ext (by first | rfl | omega) (Prod.ext ?_ ?_)
  · dsimp only
    repeat' split
    all_goals first | rfl | omega
  · dsimp only
    repeat' split
    all_goals first | rfl | omega
theorem key_dtv (n : Nums) (op sub : Nat) (ho : op < 64) (h1' : op ≠ 1) (hs : sub < 64) (hk : keyOK [100, 116, 118] op sub = true) (h0 : 0 ≤ n.i) (h1 : n.i ≤ 4294967295) : keyW (layAll ([100, 116, 118], [100, 116, 115], 0, 16) (op : Int) (sub : Int) n) = keyF [100, 116, 118] op sub ∧ (layAll ([100, 116, 118], [100, 116, 115], 0, 16) (op : Int) (sub : Int) n) / 67108864 = (op : Int) ∧ 0 ≤ layAll ([100, 116, 118], [100, 116, 115], 0, 16) (op : Int) (sub : Int) n ∧ layAll ([100, 116, 118], [100, 116, 115], 0, 16) (op : Int) (sub : Int) n ≤ 4294967295 := by
  rw [lay_dtv op sub ho h1' (by omega) n]
  refine ⟨?_, by rw [W_val]; omega, by omega, W_le _ _ _ _ _ _⟩
  rw [keyW_W]
  rw [Nat.mod_eq_of_lt ho]
  unfold keyF
  have hk' : keyOKn false false true false op sub = true := hk
  obtain ⟨k1, k2, k3, k4, k5⟩ := keyOK_parts _ _ _ _ _ _ hk'
  clear k1
  replace k2 := k2 rfl
  clear k3
  replace k4 := k4 rfl
  rw [if_neg (by decide), if_pos rfl]
  unfold keyD
  refine Prod.ext (by first | rfl | omega) (Prod.ext ?_ ?_)
  · dsimp only
    repeat' split
    all_goals first | rfl | omega
  · dsimp only
    repeat' split
    all_goals first | rfl | omega
theorem key_so (n : Nums) (op sub : Nat) (ho : op < 64) (h1' : op ≠ 1) (hs : sub = 0) (hk : keyOK [115, 111] op sub = true) (h0 : 0 ≤ n.i) (h1 : n.i ≤ 4294967295) : keyW (layAll ([115, 111], [115, 105], 0, 16) (op : Int) (sub : Int) n) = keyF [115, 111] op sub ∧ (layAll ([115, 111], [115, 105], 0, 16) (op : Int) (sub : Int) n) / 67108864 = (op : Int) ∧ 0 ≤ layAll ([115, 111], [115, 105], 0, 16) (op : Int) (sub : Int) n ∧ layAll ([115, 111], [115, 105], 0, 16) (op : Int) (sub : Int) n ≤ 4294967295 := by
  rw [lay_so op sub ho h1' (by omega) n h0 h1]
  refine ⟨?_, by rw [W_val]; omega, by omega, W_le _ _ _ _ _ _⟩
  rw [keyW_W]
  rw [Nat.mod_eq_of_lt ho]
  unfold keyF
  have hk' : keyOKn true false false false op sub = true := hk
  obtain ⟨k1, k2, k3, k4, k5⟩ := keyOK_parts _ _ _ _ _ _ hk'
  replace k1 := k1 rfl
  replace k2 := k2 rfl
  replace k3 := k3 rfl
  replace k4 := k4 rfl
  rw [if_neg (by decide), if_neg (by decide), if_neg (by decide)]
  unfold keyD
  refine Prod.ext (by first | rfl | omega) (Prod.ext ?_ ?_)
  · dsimp only
    repeat' split
    all_goals first | rfl | omega
  · dsimp only
    repeat' split
    all_goals first | rfl | omega
theorem key_j (n : Nums) (op sub : Nat) (ho : op < 64) (h1' : op ≠ 1) (hs : sub = 0) (hk : keyOK [106] op sub = true) (h0 : 0 ≤ n.i) (h1 : n.i ≤ 4294967295) : keyW (layAll ([106], [105], 0, 26) (op : Int) (sub : Int) n) = keyF [106] op sub ∧ (layAll ([106], [105], 0, 26) (op : Int) (sub : Int) n) / 67108864 = (op : Int) ∧ 0 ≤ layAll ([106], [105], 0, 26) (op : Int) (sub : Int) n ∧ layAll ([106], [105], 0, 26) (op : Int) (sub : Int) n ≤ 4294967295 := by
  rw [lay_j op sub ho h1' (by omega) n h0 h1]
  refine ⟨?_, by rw [W_val]; omega, by omega, W_le _ _ _ _ _ _⟩
  rw [keyW_W]
  rw [Nat.mod_eq_of_lt ho]
  unfold keyF
  have hk' : keyOKn true false false false op sub = true := hk
  obtain ⟨k1, k2, k3, k4, k5⟩ := keyOK_parts _ _ _ _ _ _ hk'
  replace k1 := k1 rfl
  replace k2 := k2 rfl
  replace k3 := k3 rfl
  replace k4 := k4 rfl
  rw [if_neg (by decide), if_neg (by decide), if_neg (by decide)]
  unfold keyD
  refine Prod.ext (by first | rfl | omega) (Prod.ext ?_ ?_)
  · dsimp only
    repeat' split
    all_goals first | rfl | omega
  · dsimp only
    repeat' split
    all_goals first | rfl | omega
theorem key_sto (n : Nums) (op sub : Nat) (ho : op < 64) (h1' : op ≠ 1) (hs : sub = 0) (hk : keyOK [115, 116, 111] op sub = true) (h0 : 0 ≤ n.i) (h1 : n.i ≤ 4294967295) : keyW (layAll ([115, 116, 111], [115, 116, 105], 0, 16) (op : Int) (sub : Int) n) = keyF [115, 116, 111] op sub ∧ (layAll ([115, 116, 111], [115, 116, 105], 0, 16) (op : Int) (sub : Int) n) / 67108864 = (op : Int) ∧ 0 ≤ layAll ([115, 116, 111], [115, 116, 105], 0, 16) (op : Int) (sub : Int) n ∧ layAll ([115, 116, 111], [115, 116, 105], 0, 16) (op : Int) (sub : Int) n ≤ 4294967295 := by
  rw [lay_sto op sub ho h1' (by omega) n h0 h1]
  refine ⟨?_, by rw [W_val]; omega, by omega, W_le _ _ _ _ _ _⟩
  rw [keyW_W]
  rw [Nat.mod_eq_of_lt ho]
  unfold keyF
  have hk' : keyOKn true false false false op sub = true := hk
  obtain ⟨k1, k2, k3, k4, k5⟩ := keyOK_parts _ _ _ _ _ _ hk'
  replace k1 := k1 rfl
  replace k2 := k2 rfl
  replace k3 := k3 rfl
  replace k4 := k4 rfl
  rw [if_neg (by decide), if_neg (by decide), if_neg (by decide)]
  unfold keyD
  refine Prod.ext (by first | rfl | omega) (Prod.ext ?_ ?_)
  · dsimp only
    repeat' split
    all_goals first | rfl | omega
  · dsimp only
    repeat' split
    all_goals first | rfl | omega
theorem key_tsi (n : Nums) (op sub : Nat) (ho : op < 64) (h1' : op ≠ 1) (hs : sub = 0) (hk : keyOK [116, 115, 105] op sub = true) (h0 : 0 ≤ n.i) (h1 : n.i ≤ 4294967295) : keyW (layAll ([116, 115, 105], [116, 115, 105], 0, 16) (op : Int) (sub : Int) n) = keyF [116, 115, 105] op sub ∧ (layAll ([116, 115, 105], [116, 115, 105], 0, 16) (op : Int) (sub : Int) n) / 67108864 = (op : Int) ∧ 0 ≤ layAll ([116, 115, 105], [116, 115, 105], 0, 16) (op : Int) (sub : Int) n ∧ layAll ([116, 115, 105], [116, 115, 105], 0, 16) (op : Int) (sub : Int) n ≤ 4294967295 := by
  rw [lay_tsi op sub ho h1' (by omega) n h0 h1]
  refine ⟨?_, by rw [W_val]; omega, by omega, W_le _ _ _ _ _ _⟩
  rw [keyW_W]
  rw [Nat.mod_eq_of_lt ho]
  unfold keyF
  have hk' : keyOKn true false false false op sub = true := hk
  obtain ⟨k1, k2, k3, k4, k5⟩ := keyOK_parts _ _ _ _ _ _ hk'
  replace k1 := k1 rfl
  replace k2 := k2 rfl
  replace k3 := k3 rfl
  replace k4 := k4 rfl
  rw [if_neg (by decide), if_neg (by decide), if_neg (by decide)]
  unfold keyD
  refine Prod.ext (by first | rfl | omega) (Prod.ext ?_ ?_)
  · dsimp only
    repeat' split
    all_goals first | rfl | omega
  · dsimp only
    repeat' split
    all_goals first | rfl | omega
theorem key_ti (n : Nums) (op sub : Nat) (ho : op < 64) (h1' : op ≠ 1) (hs : sub = 0) (hk : keyOK [116, 105] op sub = true) (h0 : 0 ≤ n.i) (h1 : n.i ≤ 4294967295) : keyW (layAll ([116, 105], [116, 105], 0, 16) (op : Int) (sub : Int) n) = keyF [116, 105] op sub ∧ (layAll ([116, 105], [116, 105], 0, 16) (op : Int) (sub : Int) n) / 67108864 = (op : Int) ∧ 0 ≤ layAll ([116, 105], [116, 105], 0, 16) (op : Int) (sub : Int) n ∧ layAll ([116, 105], [116, 105], 0, 16) (op : Int) (sub : Int) n ≤ 4294967295 := by
  rw [lay_ti op sub ho h1' (by omega) n h0 h1]
  refine ⟨?_, by rw [W_val]; omega, by omega, W_le _ _ _ _ _ _⟩
  rw [keyW_W]
  rw [Nat.mod_eq_of_lt ho]
  unfold keyF
  have hk' : keyOKn true false false false op sub = true := hk
  obtain ⟨k1, k2, k3, k4, k5⟩ := keyOK_parts _ _ _ _ _ _ hk'
  replace k1 := k1 rfl
  replace k2 := k2 rfl
  replace k3 := k3 rfl
  replace k4 := k4 rfl
  rw [if_neg (by decide), if_neg (by decide), if_neg (by decide)]
  unfold keyD
  refine Prod.ext (by first | rfl | omega) (Prod.ext ?_ ?_)
  · dsimp only
    repeat' split
    all_goals first | rfl | omega
  · dsimp only
    repeat' split
    all_goals first | rfl | omega
theorem key_dsd (n : Nums) (op sub : Nat) (ho : op < 64) (h1' : op ≠ 1) (hs : sub < 64) (hk : keyOK [100, 115, 100] op sub = true) (h0 : 0 ≤ n.i) (h1 : n.i ≤ 4294967295) : keyW (layAll ([100, 115, 100], [100, 115], 0, 16) (op : Int) (sub : Int) n) = keyF [100, 115, 100] op sub ∧ (layAll ([100, 115, 100], [100, 115], 0, 16) (op : Int) (sub : Int) n) / 67108864 = (op : Int) ∧ 0 ≤ layAll ([100, 115, 100], [100, 115], 0, 16) (op : Int) (sub : Int) n ∧ layAll ([100, 115, 100], [100, 115], 0, 16) (op : Int) (sub : Int) n ≤ 4294967295 := by
  rw [lay_dsd op sub ho h1' (by omega) n]
  refine ⟨?_, by rw [W_val]; omega, by omega, W_le _ _ _ _ _ _⟩
  rw [keyW_W]
  rw [Nat.mod_eq_of_lt ho]
  unfold keyF
  have hk' : keyOKn false false false false op sub = true := hk
  obtain ⟨k1, k2, k3, k4, k5⟩ := keyOK_parts _ _ _ _ _ _ hk'
  clear k1
  replace k2 := k2 rfl
  replace k3 := k3 rfl
  replace k4 := k4 rfl
  rw [if_neg (by decide), if_neg (by decide), if_neg (by decide)]
  unfold keyD
  refine Prod.ext (by first | rfl | omega) (Prod.ext ?_ ?_)
  · dsimp only
    repeat' split
    all_goals first | rfl | omega
  · dsimp only
    repeat' split
    all_goals first | rfl | omega
theorem key_tsx (n : Nums) (op sub : Nat) (ho : op < 64) (h1' : op ≠ 1) (hs : sub < 64) (hk : keyOK [116, 115, 120] op sub = true) (h0 : 0 ≤ n.i) (h1 : n.i ≤ 4294967295) : keyW (layAll ([116, 115, 120], [116, 115, 100, 97], 0, 16) (op : Int) (sub : Int) n) = keyF [116, 115, 120] op sub ∧ (layAll ([116, 115, 120], [116, 115, 100, 97], 0, 16) (op : Int) (sub : Int) n) / 67108864 = (op : Int) ∧ 0 ≤ layAll ([116, 115, 120], [116, 115, 100, 97], 0, 16) (op : Int) (sub : Int) n ∧ layAll ([116, 115, 120], [116, 115, 100, 97], 0, 16) (op : Int) (sub : Int) n ≤ 4294967295 := by
  rw [lay_tsx op sub ho h1' (by omega) n]
  refine ⟨?_, by rw [W_val]; omega, by omega, W_le _ _ _ _ _ _⟩
  rw [keyW_W]
  rw [Nat.mod_eq_of_lt ho]
  unfold keyF
  have hk' : keyOKn false false false false op sub = true := hk
  obtain ⟨k1, k2, k3, k4, k5⟩ := keyOK_parts _ _ _ _ _ _ hk'
  clear k1
  replace k2 := k2 rfl
  replace k3 := k3 rfl
  replace k4 := k4 rfl
  rw [if_neg (by decide), if_neg (by decide), if_neg (by decide)]
  unfold keyD
  refine Prod.ext (by first | rfl | omega) (Prod.ext ?_ ?_)
  · dsimp only
    repeat' split
    all_goals first | rfl | omega
  · dsimp only
    repeat' split
    all_goals first | rfl | omega
theorem key_dt (n : Nums) (op sub : Nat) (ho : op < 64) (h1' : op ≠ 1) (hs : sub < 2048) (hk : keyOK [100, 116] op sub = true) (h0 : 0 ≤ n.i) (h1 : n.i ≤ 4294967295) : keyW (layAll ([100, 116], [100, 116], 0, 16) (op : Int) (sub : Int) n) = keyF [100, 116] op sub ∧ (layAll ([100, 116], [100, 116], 0, 16) (op : Int) (sub : Int) n) / 67108864 = (op : Int) ∧ 0 ≤ layAll ([100, 116], [100, 116], 0, 16) (op : Int) (sub : Int) n ∧ layAll ([100, 116], [100, 116], 0, 16) (op : Int) (sub : Int) n ≤ 4294967295 := by
  rw [lay_dt op sub ho h1' hs n]
  refine ⟨?_, by rw [W_val]; omega, by omega, W_le _ _ _ _ _ _⟩
  rw [keyW_W]
  rw [Nat.mod_eq_of_lt ho]
  unfold keyF
  have hk' : keyOKn false false false true op sub = true := hk
  obtain ⟨k1, k2, k3, k4, k5⟩ := keyOK_parts _ _ _ _ _ _ hk'
  clear k1
  replace k2 := k2 rfl
  replace k3 := k3 rfl
  clear k4
  rw [if_neg (by decide), if_neg (by decide), if_pos rfl]
  unfold keyD
  refine Prod.ext (by first | rfl | omega) (Prod.ext ?_ ?_)
  · dsimp only
    repeat' split
    all_goals first | rfl | omega
  · dsimp only
    repeat' split
    all_goals first | rfl | omega
theorem key_td (n : Nums) (op sub : Nat) (ho : op < 64) (h1' : op ≠ 1) (hs : sub < 64) (hk : keyOK [116, 100] op sub = true) (h0 : 0 ≤ n.i) (h1 : n.i ≤ 4294967295) : keyW (layAll ([116, 100], [116, 100], 0, 16) (op : Int) (sub : Int) n) = keyF [116, 100] op sub ∧ (layAll ([116, 100], [116, 100], 0, 16) (op : Int) (sub : Int) n) / 67108864 = (op : Int) ∧ 0 ≤ layAll ([116, 100], [116, 100], 0, 16) (op : Int) (sub : Int) n ∧ layAll ([116, 100], [116, 100], 0, 16) (op : Int) (sub : Int) n ≤ 4294967295 := by
  rw [lay_td op sub ho h1' (by omega) n]
  refine ⟨?_, by rw [W_val]; omega, by omega, W_le _ _ _ _ _ _⟩
  rw [keyW_W]
  rw [Nat.mod_eq_of_lt ho]
  unfold keyF
  have hk' : keyOKn false false false false op sub = true := hk
  obtain ⟨k1, k2, k3, k4, k5⟩ := keyOK_parts _ _ _ _ _ _ hk'
  clear k1
  replace k2 := k2 rfl
  replace k3 := k3 rfl
  replace k4 := k4 rfl
  rw [if_neg (by decide), if_neg (by decide), if_neg (by decide)]
  unfold keyD
  refine Prod.ext (by first | rfl | omega) (Prod.ext ?_ ?_)
  · dsimp only
    repeat' split
    all_goals first | rfl | omega
  · dsimp only
    repeat' split
    all_goals first | rfl | omega
theorem key_tm (n : Nums) (op sub : Nat) (ho : op < 64) (h1' : op ≠ 1) (hs : sub = 0) (hk : keyOK [116, 109] op sub = true) (h0 : 0 ≤ n.i) (h1 : n.i ≤ 4294967295) : keyW (layAll ([116, 109], [116, 115, 105], 0, 16) (op : Int) (sub : Int) n) = keyF [116, 109] op sub ∧ (layAll ([116, 109], [116, 115, 105], 0, 16) (op : Int) (sub : Int) n) / 67108864 = (op : Int) ∧ 0 ≤ layAll ([116, 109], [116, 115, 105], 0, 16) (op : Int) (sub : Int) n ∧ layAll ([116, 109], [116, 115, 105], 0, 16) (op : Int) (sub : Int) n ≤ 4294967295 := by
  rw [lay_tm op sub ho h1' (by omega) n h0 h1]
  refine ⟨?_, by rw [W_val]; omega, by omega, W_le _ _ _ _ _ _⟩
  rw [keyW_W]
  rw [Nat.mod_eq_of_lt ho]
  unfold keyF
  have hk' : keyOKn true false false false op sub = true := hk
  obtain ⟨k1, k2, k3, k4, k5⟩ := keyOK_parts _ _ _ _ _ _ hk'
  replace k1 := k1 rfl
  replace k2 := k2 rfl
  replace k3 := k3 rfl
  replace k4 := k4 rfl
  rw [if_neg (by decide), if_neg (by decide), if_neg (by decide)]
  unfold keyD
  refine Prod.ext (by first | rfl | omega) (Prod.ext ?_ ?_)
  · dsimp only
    repeat' split
    all_goals first | rfl | omega
  · dsimp only
    repeat' split
    all_goals first | rfl | omega
theorem key_so1 (n : Nums) (sub : Nat) (hs : sub < 32) (hk : keyOK [115, 111] 1 sub = true) (h0 : 0 ≤ n.i) (h1 : n.i ≤ 4294967295) : keyW (layAll ([115, 111], [115, 105], 0, 16) 1 (sub : Int) n) = keyF [115, 111] 1 sub ∧ (layAll ([115, 111], [115, 105], 0, 16) 1 (sub : Int) n) / 67108864 = 1 ∧ 0 ≤ layAll ([115, 111], [115, 105], 0, 16) 1 (sub : Int) n ∧ layAll ([115, 111], [115, 105], 0, 16) 1 (sub : Int) n ≤ 4294967295 := by
  rw [lay_one sub hs n h0 h1]
  refine ⟨?_, by rw [W_val]; omega, by omega, W_le _ _ _ _ _ _⟩
  rw [keyW_W]
  skip
  unfold keyF
  have hk' : keyOKn true false false false 1 sub = true := hk
  obtain ⟨k1, k2, k3, k4, k5⟩ := keyOK_parts _ _ _ _ _ _ hk'
  replace k1 := k1 rfl
  replace k2 := k2 rfl
  replace k3 := k3 rfl
  replace k4 := k4 rfl
  rw [if_neg (by decide), if_neg (by decide), if_neg (by decide)]
  unfold keyD
  refine Prod.ext (by first | rfl | omega) (Prod.ext ?_ ?_)
  · dsimp only
    repeat' split
    all_goals first | rfl | omega
  · dsimp only
    repeat' split
    all_goals first | rfl | omega
set_option maxHeartbeats 2000000 in
theorem key_row (x : S51) (hx : x ∈ decRows) (n : Nums) (h0 : 0 ≤ n.i) (h1 : n.i ≤ 4294967295) :
    keyW (layAll (infoAt x) x.f1 x.f2 n) = keyRow x ∧ layAll (infoAt x) x.f1 x.f2 n / 67108864 = x.f1 ∧ 0 ≤ layAll (infoAt x) x.f1 x.f2 n ∧ layAll (infoAt x) x.f1 x.f2 n ≤ 4294967295 := by
  obtain ⟨hm, he⟩ := info_form x hx
  obtain ⟨hsp, o0, o1, s0, hk, hr⟩ := row_kind x hx
  have hko := List.all_eq_true.1 rows_key x hx
  unfold keyRow
  generalize infoAt x = q at hm he ⊢
  obtain ⟨nm, op, sub, form⟩ := x
  dsimp only at *
  obtain ⟨op, rfl⟩ := Int.eq_ofNat_of_zero_le o0
  obtain ⟨sub, rfl⟩ := Int.eq_ofNat_of_zero_le s0
  have ho : op < 64 := by omega
  rw [Int.toNat_natCast, Int.toNat_natCast] at hko ⊢
  clear hx o0 s0 o1 hsp hr
  unfold rowKind at hk
  dsimp only at hk
  simp only [formTable, List.mem_cons, List.not_mem_nil, or_false] at hm
  rcases hm with rfl | rfl | rfl | rfl | rfl | rfl | rfl | rfl | rfl | rfl | rfl | rfl | rfl | rfl | rfl | rfl | rfl | rfl | rfl | rfl
  · have hf : form.toList = [100, 116, 97] := he.symm
    clear he
    rw [hf] at hk hko ⊢
    have h1' : op ≠ 1 := fun e => by
      subst e
      rw [if_pos (show ((1 : Nat) : Int) = 1 from rfl)] at hk
      simp only [Bool.and_eq_true] at hk
      exact absurd hk.1 (by decide)
    rw [if_neg (show ¬ ((op : Int) = 1) by omega)] at hk
    rw [if_neg (by decide), if_neg (by decide)] at hk
    have hs : sub < 64 := by
      have := of_decide_eq_true hk
      omega
    exact key_dta n op sub ho h1' hs hko h0 h1
  · have hf : form.toList = [100, 116, 115] := he.symm
    clear he
    rw [hf] at hk hko ⊢
    have h1' : op ≠ 1 := fun e => by
      subst e
      rw [if_pos (show ((1 : Nat) : Int) = 1 from rfl)] at hk
      simp only [Bool.and_eq_true] at hk
      exact absurd hk.1 (by decide)
    rw [if_neg (show ¬ ((op : Int) = 1) by omega)] at hk
    rw [if_neg (by decide), if_neg (by decide)] at hk
    have hs : sub < 64 := by
      have := of_decide_eq_true hk
      omega
    exact key_dts n op sub ho h1' hs hko h0 h1
  · have hf : form.toList = [115] := he.symm
    clear he
    rw [hf] at hk hko ⊢
    have h1' : op ≠ 1 := fun e => by
      subst e
      rw [if_pos (show ((1 : Nat) : Int) = 1 from rfl)] at hk
      simp only [Bool.and_eq_true] at hk
      exact absurd hk.1 (by decide)
    rw [if_neg (show ¬ ((op : Int) = 1) by omega)] at hk
    rw [if_neg (by decide), if_neg (by decide)] at hk
    have hs : sub < 64 := by
      have := of_decide_eq_true hk
      omega
    exact key_s n op sub ho h1' hs hko h0 h1
  · have hf : form.toList = [100, 115] := he.symm
    clear he
    rw [hf] at hk hko ⊢
    have h1' : op ≠ 1 := fun e => by
      subst e
      rw [if_pos (show ((1 : Nat) : Int) = 1 from rfl)] at hk
      simp only [Bool.and_eq_true] at hk
      exact absurd hk.1 (by decide)
    rw [if_neg (show ¬ ((op : Int) = 1) by omega)] at hk
    rw [if_neg (by decide), if_neg (by decide)] at hk
    have hs : sub < 64 := by
      have := of_decide_eq_true hk
      omega
    exact key_ds n op sub ho h1' hs hko h0 h1
  · have hf : form.toList = [100, 115, 116] := he.symm
    clear he
    rw [hf] at hk hko ⊢
    have h1' : op ≠ 1 := fun e => by
      subst e
      rw [if_pos (show ((1 : Nat) : Int) = 1 from rfl)] at hk
      simp only [Bool.and_eq_true] at hk
      exact absurd hk.1 (by decide)
    rw [if_neg (show ¬ ((op : Int) = 1) by omega)] at hk
    rw [if_neg (by decide), if_neg (by decide)] at hk
    have hs : sub < 64 := by
      have := of_decide_eq_true hk
      omega
    exact key_dst n op sub ho h1' hs hko h0 h1
  · have hf : form.toList = [99] := he.symm
    clear he
    rw [hf] at hk hko ⊢
    have h1' : op ≠ 1 := fun e => by
      subst e
      rw [if_pos (show ((1 : Nat) : Int) = 1 from rfl)] at hk
      simp only [Bool.and_eq_true] at hk
      exact absurd hk.1 (by decide)
    rw [if_neg (show ¬ ((op : Int) = 1) by omega)] at hk
    rw [if_neg (by decide), if_neg (by decide)] at hk
    have hs : sub < 64 := by
      have := of_decide_eq_true hk
      omega
    exact key_c n op sub ho h1' hs hko h0 h1
  · have hf : form.toList = [100] := he.symm
    clear he
    rw [hf] at hk hko ⊢
    have h1' : op ≠ 1 := fun e => by
      subst e
      rw [if_pos (show ((1 : Nat) : Int) = 1 from rfl)] at hk
      simp only [Bool.and_eq_true] at hk
      exact absurd hk.1 (by decide)
    rw [if_neg (show ¬ ((op : Int) = 1) by omega)] at hk
    rw [if_neg (by decide), if_neg (by decide)] at hk
    have hs : sub < 64 := by
      have := of_decide_eq_true hk
      omega
    exact key_d n op sub ho h1' hs hko h0 h1
  · have hf : form.toList = [115, 116] := he.symm
    clear he
    rw [hf] at hk hko ⊢
    have h1' : op ≠ 1 := fun e => by
      subst e
      rw [if_pos (show ((1 : Nat) : Int) = 1 from rfl)] at hk
      simp only [Bool.and_eq_true] at hk
      exact absurd hk.1 (by decide)
    rw [if_neg (show ¬ ((op : Int) = 1) by omega)] at hk
    rw [if_neg (by decide), if_neg (by decide)] at hk
    have hs : sub < 64 := by
      have := of_decide_eq_true hk
      omega
    exact key_st n op sub ho h1' hs hko h0 h1
  · have hf : form.toList = [100, 116, 114] := he.symm
    clear he
    rw [hf] at hk hko ⊢
    have h1' : op ≠ 1 := fun e => by
      subst e
      rw [if_pos (show ((1 : Nat) : Int) = 1 from rfl)] at hk
      simp only [Bool.and_eq_true] at hk
      exact absurd hk.1 (by decide)
    rw [if_neg (show ¬ ((op : Int) = 1) by omega)] at hk
    rw [if_neg (by decide), if_neg (by decide)] at hk
    have hs : sub < 64 := by
      have := of_decide_eq_true hk
      omega
    exact key_dtr n op sub ho h1' hs hko h0 h1
  · have hf : form.toList = [100, 116, 118] := he.symm
    clear he
    rw [hf] at hk hko ⊢
    have h1' : op ≠ 1 := fun e => by
      subst e
      rw [if_pos (show ((1 : Nat) : Int) = 1 from rfl)] at hk
      simp only [Bool.and_eq_true] at hk
      exact absurd hk.1 (by decide)
    rw [if_neg (show ¬ ((op : Int) = 1) by omega)] at hk
    rw [if_neg (by decide), if_neg (by decide)] at hk
    have hs : sub < 64 := by
      have := of_decide_eq_true hk
      omega
    exact key_dtv n op sub ho h1' hs hko h0 h1
  · have hf : form.toList = [115, 111] := he.symm
    clear he
    rw [hf] at hk hko ⊢
    by_cases h1' : (op : Int) = 1
    · rw [if_pos h1'] at hk
      have hs : sub < 32 := by
        simp only [Bool.and_eq_true, decide_eq_true_eq] at hk
        omega
      have e1 : op = 1 := by omega
      subst e1
      exact key_so1 n sub hs hko h0 h1
    rw [if_neg h1', if_pos (by decide)] at hk
    have hs : sub = 0 := by
      have := beq_iff_eq.1 hk
      omega
    exact key_so n op sub ho (by omega) hs hko h0 h1
  · have hf : form.toList = [106] := he.symm
    clear he
    rw [hf] at hk hko ⊢
    have h1' : op ≠ 1 := fun e => by
      subst e
      rw [if_pos (show ((1 : Nat) : Int) = 1 from rfl)] at hk
      simp only [Bool.and_eq_true] at hk
      exact absurd hk.1 (by decide)
    rw [if_neg (show ¬ ((op : Int) = 1) by omega)] at hk
    rw [if_pos (by decide)] at hk
    have hs : sub = 0 := by
      have := beq_iff_eq.1 hk
      omega
    exact key_j n op sub ho h1' hs hko h0 h1
  · have hf : form.toList = [115, 116, 111] := he.symm
    clear he
    rw [hf] at hk hko ⊢
    have h1' : op ≠ 1 := fun e => by
      subst e
      rw [if_pos (show ((1 : Nat) : Int) = 1 from rfl)] at hk
      simp only [Bool.and_eq_true] at hk
      exact absurd hk.1 (by decide)
    rw [if_neg (show ¬ ((op : Int) = 1) by omega)] at hk
    rw [if_pos (by decide)] at hk
    have hs : sub = 0 := by
      have := beq_iff_eq.1 hk
      omega
    exact key_sto n op sub ho h1' hs hko h0 h1
  · have hf : form.toList = [116, 115, 105] := he.symm
    clear he
    rw [hf] at hk hko ⊢
    have h1' : op ≠ 1 := fun e => by
      subst e
      rw [if_pos (show ((1 : Nat) : Int) = 1 from rfl)] at hk
      simp only [Bool.and_eq_true] at hk
      exact absurd hk.1 (by decide)
    rw [if_neg (show ¬ ((op : Int) = 1) by omega)] at hk
    rw [if_pos (by decide)] at hk
    have hs : sub = 0 := by
      have := beq_iff_eq.1 hk
      omega
    exact key_tsi n op sub ho h1' hs hko h0 h1
  · have hf : form.toList = [116, 105] := he.symm
    clear he
    rw [hf] at hk hko ⊢
    have h1' : op ≠ 1 := fun e => by
      subst e
      rw [if_pos (show ((1 : Nat) : Int) = 1 from rfl)] at hk
      simp only [Bool.and_eq_true] at hk
      exact absurd hk.1 (by decide)
    rw [if_neg (show ¬ ((op : Int) = 1) by omega)] at hk
    rw [if_pos (by decide)] at hk
    have hs : sub = 0 := by
      have := beq_iff_eq.1 hk
      omega
    exact key_ti n op sub ho h1' hs hko h0 h1
  · have hf : form.toList = [100, 115, 100] := he.symm
    clear he
    rw [hf] at hk hko ⊢
    have h1' : op ≠ 1 := fun e => by
      subst e
      rw [if_pos (show ((1 : Nat) : Int) = 1 from rfl)] at hk
      simp only [Bool.and_eq_true] at hk
      exact absurd hk.1 (by decide)
    rw [if_neg (show ¬ ((op : Int) = 1) by omega)] at hk
    rw [if_neg (by decide), if_neg (by decide)] at hk
    have hs : sub < 64 := by
      have := of_decide_eq_true hk
      omega
    exact key_dsd n op sub ho h1' hs hko h0 h1
  · have hf : form.toList = [116, 115, 120] := he.symm
    clear he
    rw [hf] at hk hko ⊢
    have h1' : op ≠ 1 := fun e => by
      subst e
      rw [if_pos (show ((1 : Nat) : Int) = 1 from rfl)] at hk
      simp only [Bool.and_eq_true] at hk
      exact absurd hk.1 (by decide)
    rw [if_neg (show ¬ ((op : Int) = 1) by omega)] at hk
    rw [if_neg (by decide), if_neg (by decide)] at hk
    have hs : sub < 64 := by
      have := of_decide_eq_true hk
      omega
    exact key_tsx n op sub ho h1' hs hko h0 h1
  · have hf : form.toList = [100, 116] := he.symm
    clear he
    rw [hf] at hk hko ⊢
    have h1' : op ≠ 1 := fun e => by
      subst e
      rw [if_pos (show ((1 : Nat) : Int) = 1 from rfl)] at hk
      simp only [Bool.and_eq_true] at hk
      exact absurd hk.1 (by decide)
    rw [if_neg (show ¬ ((op : Int) = 1) by omega)] at hk
    rw [if_neg (by decide), if_pos rfl] at hk
    have hs : sub < 2048 := by
      have := of_decide_eq_true hk
      omega
    exact key_dt n op sub ho h1' hs hko h0 h1
  · have hf : form.toList = [116, 100] := he.symm
    clear he
    rw [hf] at hk hko ⊢
    have h1' : op ≠ 1 := fun e => by
      subst e
      rw [if_pos (show ((1 : Nat) : Int) = 1 from rfl)] at hk
      simp only [Bool.and_eq_true] at hk
      exact absurd hk.1 (by decide)
    rw [if_neg (show ¬ ((op : Int) = 1) by omega)] at hk
    rw [if_neg (by decide), if_neg (by decide)] at hk
    have hs : sub < 64 := by
      have := of_decide_eq_true hk
      omega
    exact key_td n op sub ho h1' hs hko h0 h1
  · have hf : form.toList = [116, 109] := he.symm
    clear he
    rw [hf] at hk hko ⊢
    have h1' : op ≠ 1 := fun e => by
      subst e
      rw [if_pos (show ((1 : Nat) : Int) = 1 from rfl)] at hk
      simp only [Bool.and_eq_true] at hk
      exact absurd hk.1 (by decide)
    rw [if_neg (show ¬ ((op : Int) = 1) by omega)] at hk
    rw [if_pos (by decide)] at hk
    have hs : sub = 0 := by
      have := beq_iff_eq.1 hk
      omega
    exact key_tm n op sub ho h1' hs hko h0 h1
end Go.Proofs.YtnddjndgfaefaaaDoor.F
end
