import Derived.Below
import Derived.Deep.Draws
import Derived.Deep.AppendLies
import Derived.Maps.AppendAt
import Derived.OwnWalk
import Derived.Laws.BytesArg
import Derived.Laws.MakeOwn
import Derived.Laws.OwnMore
import Derived.Deep.OwnRows
import Derived.Tactics
import Derived.Lib.ConvBytes
import Derived.Laws.Slices
import Derived.WalkKit
import Derived.KernelRfl
import Derived.RowKit3
import Derived.Deep.LoopGhost
import Derived.Deep.QuietTactic
import Derived.BigQuiet
import Derived.WideLaws
import Derived.Deep.DeepCutAuto
import Derived.Deep.CutBlock
import Derived.Deep.RegionHeld3
import Derived.Laws.Rows
import Derived.Lib.AppendStr
import Derived.ArgAppend
import Derived.Laws.IdiomCopy
import Derived.RowKit
import Derived.OrdersHeld
import Derived.Laws.BitsLemmas
import Derived.Laws.StructEq
import Derived.Shelf.Small.Bits
import Derived.Shelf.LaysM
import Derived.Shelf.Strings.Fields
import Derived.Shelf.Strings.Replace
import Derived.Shelf.Strings.SplitShaped
import Derived.Lib.LaidTab
import Derived.Shelf.Abstract
import Derived.RangeFuncRecord
import Derived.ProofKit
import Derived.Lib.Hide
import Derived.Maps.OwnOps
import Derived.OwnWalkIn
import Derived.WalkSmall
import Derived.Laws.ResultCell
import Derived.Shelf.RegionOpen
import Derived.Deep.RegionWith
import Derived.WalkLawsBesides
import Derived.Defers
import Derived.Recover
import Derived.Tactics2
import Derived.Test.YtnddjndgfaefaaaDoorVZF0
import Derived.Test.YtnddjndgfaefaaaDoorVA0
import Derived.Test.YtnddjndgfaefaaaDoorVA1HDecMap
import Derived.Test.YtnddjndgfaefaaaDoorVA3HDecTake
section
namespace Go.Proofs.YtnddjndgfaefaaaDoor.F
open Go.RowKit Go.Shelf Go.Proofs.YtnddjndgfaefaaaDoorW.PrintWords Go.Proofs.YtnddjndgfaefaaaDoorW.PrintLast Go.Proofs.YtnddjndgfaefaaaDoorW.PrintMore
set_option linter.unusedVariables false
set_option linter.unusedSimpArgs false
theorem one_block (w : World) (a : Obj) : (w.alloc a).heap[w.heap.size]? = some a ∧ (w.alloc a).heap.size = w.heap.size + 1 ∧ Below w.heap.size w (w.alloc a) :=
  ⟨World.alloc_heap_new w _, World.size_alloc _ _, (Below.refl _ w).alloc (Nat.le_refl _) _⟩
def fixedOf (form : List UInt8) (op sub w0 : Int) : Int :=
  if op = 1 then bits .or .u32 67108864 (sub * 65536 % 4294967296)
  else if form = [100, 116] then bits .or .u32 (bits .or .u32 (op * 67108864 % 4294967296) (bits .and .u32 sub 63)) (sub / 64 * 64 % 4294967296)
  else if form = [100, 116, 114] then bits .or .u32 (bits .or .u32 (op * 67108864 % 4294967296) (bits .and .u32 sub 63)) 2097152
  else if form = [100, 116, 118] then bits .or .u32 (bits .or .u32 (op * 67108864 % 4294967296) (bits .and .u32 sub 63)) 64
  else if form = [100, 115, 100] then bits .or .u32 (bits .or .u32 (op * 67108864 % 4294967296) (bits .and .u32 sub 63)) (bits .and .u32 (w0 / 2048) 31 * 65536 % 4294967296)
  else bits .or .u32 (op * 67108864 % 4294967296) (bits .and .u32 sub 63)
set_option maxHeartbeats 4000000 in
set_option maxRecDepth 100000 in
theorem row_fixed.calls (nm form : ByteArray) (op sub w0 : Int) (w : World) (r : Int) (hr : fixedOf form.toList op sub w0 = r) :
    Calls Tryd.prog 55 #[.agg #[.string nm, .int .u32 op, .int .u32 sub, .string form], .int .u32 w0] w fun e w' => e = .returned (.int .u32 r) ∧ Below w.heap.size w w' := by
  have WH := Lib.hid (fun w => dec_where.calls w)
  have T1 := Lib.hid (one_block w (.cells #[.string nm, .int .u32 op, .int .u32 sub, .string form] 51))
  unfold fixedOf at hr
  by_cases h1 : op = 1
  · rw [if_pos h1] at hr
    subst h1 hr
    go_enter Tryd.func55, Tryd.ntmps55
    go_wp2_with (go_at_call 51; (with_reducible refine (WH.out _).mono ?_); rintro ex w1 ⟨rfl, hM, hb1⟩; rw [T1.out.2.1] at hM; have M1 := Lib.hid hM; clear hM; have B1 := Lib.hid (T1.out.2.2.trans (hb1.mono (by rw [T1.out.2.1]; omega))); have R1 := Lib.hid ((hb1.block _ (by rw [T1.out.2.1]; omega)).trans T1.out.1); clear hb1; have c1 := dblk_cell (j := 1) (v := .int .u32 1) R1.out rfl; have c2 := dblk_cell (j := 2) (v := .int .u32 sub) R1.out rfl; have c3 := dblk_cell (j := 3) (v := .string form) R1.out rfl; have k115 := look115 _ w1 M1.out; have k116 := look116 _ w1 M1.out; have k100 := look100 _ w1 M1.out; have k97 := look97 _ w1 M1.out)
    go_ret
    exact ⟨rfl, B1.out⟩
  rw [if_neg h1] at hr
  have b0 : (op == 1) = false := beq_eq_false_iff_ne.2 h1
  clear h1
  by_cases g0 : form.toList = [100, 116]
  · rw [if_pos g0] at hr
    have b1 : (form.toList == [100, 116]) = true := beq_iff_eq.2 g0
    subst hr
    clear g0
    go_enter Tryd.func55, Tryd.ntmps55
    go_wp2_with (go_at_call 51; (with_reducible refine (WH.out _).mono ?_); rintro ex w1 ⟨rfl, hM, hb1⟩; rw [T1.out.2.1] at hM; have M1 := Lib.hid hM; clear hM; have B1 := Lib.hid (T1.out.2.2.trans (hb1.mono (by rw [T1.out.2.1]; omega))); have R1 := Lib.hid ((hb1.block _ (by rw [T1.out.2.1]; omega)).trans T1.out.1); clear hb1; have c1 := dblk_cell (j := 1) (v := .int .u32 op) R1.out rfl; have c2 := dblk_cell (j := 2) (v := .int .u32 sub) R1.out rfl; have c3 := dblk_cell (j := 3) (v := .string form) R1.out rfl; have k115 := look115 _ w1 M1.out; have k116 := look116 _ w1 M1.out; have k100 := look100 _ w1 M1.out; have k97 := look97 _ w1 M1.out)
    go_ret
    exact ⟨rfl, B1.out⟩
  rw [if_neg g0] at hr
  have b1 : (form.toList == [100, 116]) = false := beq_eq_false_iff_ne.2 g0
  clear g0
  by_cases g1 : form.toList = [100, 116, 114]
  · rw [if_pos g1] at hr
    have b2 : (form.toList == [100, 116, 114]) = true := beq_iff_eq.2 g1
    subst hr
    clear g1
    go_enter Tryd.func55, Tryd.ntmps55
    go_wp2_with (go_at_call 51; (with_reducible refine (WH.out _).mono ?_); rintro ex w1 ⟨rfl, hM, hb1⟩; rw [T1.out.2.1] at hM; have M1 := Lib.hid hM; clear hM; have B1 := Lib.hid (T1.out.2.2.trans (hb1.mono (by rw [T1.out.2.1]; omega))); have R1 := Lib.hid ((hb1.block _ (by rw [T1.out.2.1]; omega)).trans T1.out.1); clear hb1; have c1 := dblk_cell (j := 1) (v := .int .u32 op) R1.out rfl; have c2 := dblk_cell (j := 2) (v := .int .u32 sub) R1.out rfl; have c3 := dblk_cell (j := 3) (v := .string form) R1.out rfl; have k115 := look115 _ w1 M1.out; have k116 := look116 _ w1 M1.out; have k100 := look100 _ w1 M1.out; have k97 := look97 _ w1 M1.out)
    go_ret
    exact ⟨rfl, B1.out⟩
  rw [if_neg g1] at hr
  have b2 : (form.toList == [100, 116, 114]) = false := beq_eq_false_iff_ne.2 g1
  clear g1
  by_cases g2 : form.toList = [100, 116, 118]
  · rw [if_pos g2] at hr
    have b3 : (form.toList == [100, 116, 118]) = true := beq_iff_eq.2 g2
    subst hr
    clear g2
    go_enter Tryd.func55, Tryd.ntmps55
    go_wp2_with (go_at_call 51; (with_reducible refine (WH.out _).mono ?_); rintro ex w1 ⟨rfl, hM, hb1⟩; rw [T1.out.2.1] at hM; have M1 := Lib.hid hM; clear hM; have B1 := Lib.hid (T1.out.2.2.trans (hb1.mono (by rw [T1.out.2.1]; omega))); have R1 := Lib.hid ((hb1.block _ (by rw [T1.out.2.1]; omega)).trans T1.out.1); clear hb1; have c1 := dblk_cell (j := 1) (v := .int .u32 op) R1.out rfl; have c2 := dblk_cell (j := 2) (v := .int .u32 sub) R1.out rfl; have c3 := dblk_cell (j := 3) (v := .string form) R1.out rfl; have k115 := look115 _ w1 M1.out; have k116 := look116 _ w1 M1.out; have k100 := look100 _ w1 M1.out; have k97 := look97 _ w1 M1.out)
    go_ret
    exact ⟨rfl, B1.out⟩
  rw [if_neg g2] at hr
  have b3 : (form.toList == [100, 116, 118]) = false := beq_eq_false_iff_ne.2 g2
  clear g2
  by_cases g3 : form.toList = [100, 115, 100]
  · rw [if_pos g3] at hr
    have b4 : (form.toList == [100, 115, 100]) = true := beq_iff_eq.2 g3
    subst hr
    clear g3
    go_enter Tryd.func55, Tryd.ntmps55
    go_wp2_with (go_at_call 51; (with_reducible refine (WH.out _).mono ?_); rintro ex w1 ⟨rfl, hM, hb1⟩; rw [T1.out.2.1] at hM; have M1 := Lib.hid hM; clear hM; have B1 := Lib.hid (T1.out.2.2.trans (hb1.mono (by rw [T1.out.2.1]; omega))); have R1 := Lib.hid ((hb1.block _ (by rw [T1.out.2.1]; omega)).trans T1.out.1); clear hb1; have c1 := dblk_cell (j := 1) (v := .int .u32 op) R1.out rfl; have c2 := dblk_cell (j := 2) (v := .int .u32 sub) R1.out rfl; have c3 := dblk_cell (j := 3) (v := .string form) R1.out rfl; have k115 := look115 _ w1 M1.out; have k116 := look116 _ w1 M1.out; have k100 := look100 _ w1 M1.out; have k97 := look97 _ w1 M1.out)
    go_ret
    exact ⟨rfl, B1.out⟩
  rw [if_neg g3] at hr
  have b4 : (form.toList == [100, 115, 100]) = false := beq_eq_false_iff_ne.2 g3
  clear g3
  subst hr
  go_enter Tryd.func55, Tryd.ntmps55
  go_wp2_with (go_at_call 51; (with_reducible refine (WH.out _).mono ?_); rintro ex w1 ⟨rfl, hM, hb1⟩; rw [T1.out.2.1] at hM; have M1 := Lib.hid hM; clear hM; have B1 := Lib.hid (T1.out.2.2.trans (hb1.mono (by rw [T1.out.2.1]; omega))); have R1 := Lib.hid ((hb1.block _ (by rw [T1.out.2.1]; omega)).trans T1.out.1); clear hb1; have c1 := dblk_cell (j := 1) (v := .int .u32 op) R1.out rfl; have c2 := dblk_cell (j := 2) (v := .int .u32 sub) R1.out rfl; have c3 := dblk_cell (j := 3) (v := .string form) R1.out rfl; have k115 := look115 _ w1 M1.out; have k116 := look116 _ w1 M1.out; have k100 := look100 _ w1 M1.out; have k97 := look97 _ w1 M1.out)
  go_ret
  exact ⟨rfl, B1.out⟩
end Go.Proofs.YtnddjndgfaefaaaDoor.F
end
section
namespace Go.Proofs.YtnddjndgfaefaaaDoor.F
open Go.RowKit Go.Proofs.YtnddjndgfaefaaaDoorW.PrintWords Go.Proofs.YtnddjndgfaefaaaDoorW.PrintLast Go.Proofs.YtnddjndgfaefaaaDoorW.PrintMore
attribute [local go_sem] max2_int min2_int max_two min_two max_three min_three max_four min_four
set_option linter.unusedVariables false
set_option linter.unusedSimpArgs false

def bits_RotateLeft32.f (a0 : Int) (a1 : Int) : Option (Int) := if 0 ≤ (Go.bits .and .u64 (IntKind.u64.wrap (a1)) 31) then (if 0 ≤ (IntKind.u64.wrap (32 - (Go.bits .and .u64 (IntKind.u64.wrap (a1)) 31))) then (some (Go.bits .or .u32 (shl .u32 a0 (Go.bits .and .u64 (IntKind.u64.wrap (a1)) 31)) (shr .u32 a0 (IntKind.u64.wrap (32 - (Go.bits .and .u64 (IntKind.u64.wrap (a1)) 31)))))) else (none)) else (none)
set_option maxHeartbeats 8000000 in
set_option maxRecDepth 100000 in
theorem bits_RotateLeft32.calls (a0 : Int) (a1 : Int) (r : Int) (w : World) (h : bits_RotateLeft32.f a0 a1 = some r) :
    Calls Tryd.prog 58 #[.int .u32 a0, .int .i64 a1] w fun e w' => e = .returned (.int .u32 r) ∧ Drawn0 w w' := by
  have H : (if 0 ≤ (Go.bits .and .u64 (IntKind.u64.wrap (a1)) 31) then (if 0 ≤ (IntKind.u64.wrap (32 - (Go.bits .and .u64 (IntKind.u64.wrap (a1)) 31))) then (some (Go.bits .or .u32 (shl .u32 a0 (Go.bits .and .u64 (IntKind.u64.wrap (a1)) 31)) (shr .u32 a0 (IntKind.u64.wrap (32 - (Go.bits .and .u64 (IntKind.u64.wrap (a1)) 31)))))) else (none)) else (none)) = some r := h
  clear h
  obtain ⟨ji3, hji3⟩ : ∃ j_ : Int, (Go.bits .and .u64 (IntKind.u64.wrap (a1)) 31) = j_ := ⟨_, rfl⟩
  replace H : (if 0 ≤ (ji3) then (if 0 ≤ (IntKind.u64.wrap (32 - (ji3))) then (some (Go.bits .or .u32 (shl .u32 a0 (ji3)) (shr .u32 a0 (IntKind.u64.wrap (32 - (ji3)))))) else (none)) else (none)) = some r := by first | (rw [hji3] at H; exact H) | (simp only [hji3] at H ⊢; exact H)
  by_cases c4 : 0 ≤ (ji3)
  · rw [if_pos c4] at H
    have c4b0 := eq_true c4
    have c4b1 : decide (0 ≤ (ji3)) = true := decide_eq_true c4
    clear c4
    obtain ⟨ji5, hji5⟩ : ∃ j_ : Int, (shl .u32 a0 (ji3)) = j_ := ⟨_, rfl⟩
    replace H : (if 0 ≤ (IntKind.u64.wrap (32 - (ji3))) then (some (Go.bits .or .u32 (ji5) (shr .u32 a0 (IntKind.u64.wrap (32 - (ji3)))))) else (none)) = some r := by first | (rw [hji5] at H; exact H) | (simp only [hji5] at H ⊢; exact H)
    have hji5_ : (IntKind.u32.wrap (a0 * 2 ^ min (ji3).toNat 32)) = ji5 := hji5
    have hji5z : (ji3) ≤ 32 → (IntKind.u32.wrap (a0 * 2 ^ (ji3).toNat)) = ji5 := shl_small hji5
    obtain ⟨ji6, hji6⟩ : ∃ j_ : Int, (IntKind.u64.wrap (32 - (ji3))) = j_ := ⟨_, rfl⟩
    replace H : (if 0 ≤ (ji6) then (some (Go.bits .or .u32 (ji5) (shr .u32 a0 (ji6)))) else (none)) = some r := by first | (rw [hji6] at H; exact H) | (simp only [hji6] at H ⊢; exact H)
    by_cases c7 : 0 ≤ (ji6)
    · rw [if_pos c7] at H
      have c7b0 := eq_true c7
      have c7b1 : decide (0 ≤ (ji6)) = true := decide_eq_true c7
      clear c7
      obtain ⟨ji8, hji8⟩ : ∃ j_ : Int, (shr .u32 a0 (ji6)) = j_ := ⟨_, rfl⟩
      replace H : (some (Go.bits .or .u32 (ji5) (ji8))) = some r := by first | (rw [hji8] at H; exact H) | (simp only [hji8] at H ⊢; exact H)
      have hji8_ : (a0 / 2 ^ min (ji6).toNat 32) = ji8 := hji8
      have hji8z : (ji6) ≤ 32 → (a0 / 2 ^ (ji6).toNat) = ji8 := shr_small hji8
      obtain rfl := Option.some.inj H
      go_enter Tryd.func58, Tryd.ntmps58
      go_wp2
      go_ret
      exact ⟨by first | rfl | (simp; done) | (simp only [← hji3, ← hji5, ← hji6, ← hji8] <;> (first | rfl | simp)) | (simp [*]; done), by repeat (first | exact Drawn0.refl _ | apply Drawn0.step)⟩
    rw [if_neg c7] at H
    exact absurd H (by simp)
  rw [if_neg c4] at H
  exact absurd H (by simp)

end Go.Proofs.YtnddjndgfaefaaaDoor.F
end
section
namespace Go.Proofs.YtnddjndgfaefaaaDoor.F
open Go.RowKit Go.Proofs.YtnddjndgfaefaaaDoorW.PrintWords Go.Proofs.YtnddjndgfaefaaaDoorW.PrintLast Go.Proofs.YtnddjndgfaefaaaDoorW.PrintMore
attribute [local go_sem] max2_int min2_int max_two min_two max_three min_three max_four min_four
set_option linter.unusedVariables false
set_option linter.unusedSimpArgs false

def bits_ReverseBytes32.f (a0 : Int) : Option (Int) := some (Go.bits .or .u32 ((Go.bits .or .u32 (Go.bits .and .u32 (a0 / 256) 16711935) (((Go.bits .and .u32 a0 16711935) * 256) % 4294967296)) / 65536) (((Go.bits .or .u32 (Go.bits .and .u32 (a0 / 256) 16711935) (((Go.bits .and .u32 a0 16711935) * 256) % 4294967296)) * 65536) % 4294967296))
set_option maxHeartbeats 8000000 in
set_option maxRecDepth 100000 in
theorem bits_ReverseBytes32.calls (a0 : Int) (r : Int) (w : World) (h : bits_ReverseBytes32.f a0 = some r) :
    Calls Tryd.prog 59 #[.int .u32 a0] w fun e w' => e = .returned (.int .u32 r) ∧ Drawn0 w w' := by
  have H : (some (Go.bits .or .u32 ((Go.bits .or .u32 (Go.bits .and .u32 (a0 / 256) 16711935) (((Go.bits .and .u32 a0 16711935) * 256) % 4294967296)) / 65536) (((Go.bits .or .u32 (Go.bits .and .u32 (a0 / 256) 16711935) (((Go.bits .and .u32 a0 16711935) * 256) % 4294967296)) * 65536) % 4294967296))) = some r := h
  clear h
  obtain rfl := Option.some.inj H
  go_enter Tryd.func59, Tryd.ntmps59
  go_wp2
  go_ret
  exact ⟨by first | rfl | (simp; done) | (simp [*]; done), by repeat (first | exact Drawn0.refl _ | apply Drawn0.step)⟩

end Go.Proofs.YtnddjndgfaefaaaDoor.F
end
section
namespace Go.Proofs.YtnddjndgfaefaaaDoor.F
open Go.RowKit Go.Proofs.YtnddjndgfaefaaaDoorW.PrintWords Go.Proofs.YtnddjndgfaefaaaDoorW.PrintLast Go.Proofs.YtnddjndgfaefaaaDoorW.PrintMore
attribute [local go_sem] max2_int min2_int max_two min_two max_three min_three max_four min_four
set_option linter.unusedVariables false
set_option linter.unusedSimpArgs false

def swap_Sext.f (a0 : Int) (a1 : Int) : Option (Int) := if a1 < 1 then (some a0) else (if a1 > 32 then (some a0) else (if 0 ≤ (wrap64 (32 - a1)) then (some ((shr .i32 (wrap32 (shl .u32 a0 (wrap64 (32 - a1)))) (wrap64 (32 - a1))) % 4294967296)) else (none)))
set_option maxHeartbeats 8000000 in
set_option maxRecDepth 100000 in
theorem swap_Sext.calls (a0 : Int) (a1 : Int) (r : Int) (w : World) (h : swap_Sext.f a0 a1 = some r) :
    Calls Tryd.prog 34 #[.int .u32 a0, .int .i64 a1] w fun e w' => e = .returned (.int .u32 r) ∧ Drawn0 w w' := by
  have H : (if a1 < 1 then (some a0) else (if a1 > 32 then (some a0) else (if 0 ≤ (wrap64 (32 - a1)) then (some ((shr .i32 (wrap32 (shl .u32 a0 (wrap64 (32 - a1)))) (wrap64 (32 - a1))) % 4294967296)) else (none)))) = some r := h
  clear h
  by_cases c3 : a1 < 1
  · rw [if_pos c3] at H
    have c3b0 : decide (a1 < 1) = true := decide_eq_true c3
    clear c3
    obtain rfl := Option.some.inj H
    go_enter Tryd.func34, Tryd.ntmps34
    go_wp2
    go_ret
    exact ⟨by first | rfl | (simp; done) | (simp [*]; done), by repeat (first | exact Drawn0.refl _ | apply Drawn0.step)⟩
  rw [if_neg c3] at H
  have c3b0 : decide (a1 < 1) = false := decide_eq_false c3
  clear c3
  by_cases c4 : a1 > 32
  · rw [if_pos c4] at H
    have c4b0 : decide (32 < a1) = true := decide_eq_true c4
    clear c4
    obtain rfl := Option.some.inj H
    go_enter Tryd.func34, Tryd.ntmps34
    go_wp2
    go_ret
    exact ⟨by first | rfl | (simp; done) | (simp [*]; done), by repeat (first | exact Drawn0.refl _ | apply Drawn0.step)⟩
  rw [if_neg c4] at H
  have c4b0 : decide (32 < a1) = false := decide_eq_false c4
  clear c4
  obtain ⟨ji5, hji5⟩ : ∃ j_ : Int, (wrap64 (32 - a1)) = j_ := ⟨_, rfl⟩
  replace H : (if 0 ≤ (ji5) then (some ((shr .i32 (wrap32 (shl .u32 a0 (ji5))) (ji5)) % 4294967296)) else (none)) = some r := by first | (rw [hji5] at H; exact H) | (simp only [hji5] at H ⊢; exact H)
  have hji5w : (IntKind.i64.wrap (32 - a1)) = ji5 := (i64_w _).trans hji5
  by_cases c6 : 0 ≤ (ji5)
  · rw [if_pos c6] at H
    have c6b0 := eq_true c6
    have c6b1 : decide (0 ≤ (ji5)) = true := decide_eq_true c6
    clear c6
    obtain ⟨ji7, hji7⟩ : ∃ j_ : Int, (shl .u32 a0 (ji5)) = j_ := ⟨_, rfl⟩
    replace H : (some ((shr .i32 (wrap32 (ji7)) (ji5)) % 4294967296)) = some r := by first | (rw [hji7] at H; exact H) | (simp only [hji7] at H ⊢; exact H)
    have hji7_ : (IntKind.u32.wrap (a0 * 2 ^ min (ji5).toNat 32)) = ji7 := hji7
    have hji7z : (ji5) ≤ 32 → (IntKind.u32.wrap (a0 * 2 ^ (ji5).toNat)) = ji7 := shl_small hji7
    have c8b0 := eq_true (of_decide_eq_true (by first | (with_reducible assumption) | assumption) : 0 ≤ (ji5))
    obtain ⟨ji9, hji9⟩ : ∃ j_ : Int, (shr .i32 (wrap32 (ji7)) (ji5)) = j_ := ⟨_, rfl⟩
    replace H : (some ((ji9) % 4294967296)) = some r := by first | (rw [hji9] at H; exact H) | (simp only [hji9] at H ⊢; exact H)
    have hji9_ : ((wrap32 (ji7)) / 2 ^ min (ji5).toNat 32) = ji9 := hji9
    have hji9z : (ji5) ≤ 32 → ((wrap32 (ji7)) / 2 ^ (ji5).toNat) = ji9 := shr_small hji9
    obtain rfl := Option.some.inj H
    go_enter Tryd.func34, Tryd.ntmps34
    go_wp2
    go_ret
    exact ⟨by first | rfl | (simp; done) | (simp only [← hji5, ← hji7, ← hji9] <;> (first | rfl | simp)) | (simp [*]; done), by repeat (first | exact Drawn0.refl _ | apply Drawn0.step)⟩
  rw [if_neg c6] at H
  exact absurd H (by simp)

end Go.Proofs.YtnddjndgfaefaaaDoor.F
end
section
namespace Go.Proofs.YtnddjndgfaefaaaDoor.F
open Go.RowKit Go.Shelf Go.Proofs.YtnddjndgfaefaaaDoorW.PrintWords Go.Proofs.YtnddjndgfaefaaaDoorW.PrintLast Go.Proofs.YtnddjndgfaefaaaDoorW.PrintMore
set_option linter.unusedVariables false
set_option linter.unusedSimpArgs false
def aluNames : List (List UInt8) := [[97, 100, 100], [115, 117, 98], [97, 100, 100, 105], [97, 100, 100, 117], [115, 117, 98, 117], [97, 100, 100, 105, 117], [97, 110, 100], [111, 114], [120, 111, 114], [110, 111, 114], [97, 110, 100, 105], [111, 114, 105], [120, 111, 114, 105], [115, 108, 116], [115, 108, 116, 117], [115, 108, 116, 105], [115, 108, 116, 105, 117], [108, 117, 105], [115, 108, 108], [115, 114, 108], [115, 114, 97], [115, 108, 108, 118], [115, 114, 108, 118], [115, 114, 97, 118], [114, 111, 116, 114], [114, 111, 116, 114, 118], [109, 117, 108], [99, 108, 122], [99, 108, 111], [101, 120, 116], [105, 110, 115], [119, 115, 98, 104], [115, 101, 98], [115, 101, 104]]
def aluText : ByteArray := ⟨#[97, 100, 100, 32, 115, 117, 98, 32, 97, 100, 100, 105, 32, 97, 100, 100, 117, 32, 115, 117, 98, 117, 32, 97, 100, 100, 105, 117, 32, 97, 110, 100, 32, 111, 114, 32, 120, 111, 114, 32, 110, 111, 114, 32, 97, 110, 100, 105, 32, 111, 114, 105, 32, 120, 111, 114, 105, 32, 115, 108, 116, 32, 115, 108, 116, 117, 32, 115, 108, 116, 105, 32, 115, 108, 116, 105, 117, 32, 108, 117, 105, 32, 115, 108, 108, 32, 115, 114, 108, 32, 115, 114, 97, 32, 115, 108, 108, 118, 32, 115, 114, 108, 118, 32, 115, 114, 97, 118, 32, 114, 111, 116, 114, 32, 114, 111, 116, 114, 118, 32, 109, 117, 108, 32, 99, 108, 122, 32, 99, 108, 111, 32, 101, 120, 116, 32, 105, 110, 115, 32, 119, 115, 98, 104, 32, 115, 101, 98, 32, 115, 101, 104]⟩
-- HAND fn=ferry/alu.Known ; rounds=0 ; making=1 ; laid=1
def alu_Known.f (a0 : ByteArray) : Option Bool := some (decide (a0.toList ∈ aluNames))
theorem aluNames_of : (wordsOf aluText).map ByteArray.toList = aluNames := by decide +kernel
set_option maxHeartbeats 4000000 in
set_option maxRecDepth 100000 in
theorem alu_Known.calls (a0 : ByteArray) (r : Bool) (w : World) (hL : Laid w) (h : alu_Known.f a0 = some r) :
    Calls Tryd.prog 12 #[.string a0] w fun e w' => e = .returned (.bool r) ∧ Below w.heap.size w w' := by
  have HR : slices_Contains_string_string.f 1000 (wordsOf aluText) a0 = some r := by
    rw [contains_words _ _ _ (by decide +kernel) (by decide +kernel), aluNames_of]
    exact h
  have HC := words_read w (wordsOf aluText) (by decide +kernel)
  have HF := fields_words aluText w (by decide) (by decide +kernel) hL
  have hb : Below w.heap.size w (w.alloc (.cells ((wordsOf aluText).map Value.string).toArray 9)) := (Below.refl _ w).alloc (Nat.le_refl _) _
  clear h
  generalize hW : wordsOf aluText = W at HR HC HF hb
  clear hW
  unfold aluText at HF
  have HF := Lib.hid HF
  go_enter Tryd.func12, Tryd.ntmps12
  go_wp2_with (first
    | (go_at_call 29; refine HF.out.mono ?_; rintro e w' ⟨rfl, rfl⟩)
    | (go_at_call 28; refine (slices_Contains_string_string.calls 1000 _ _ W a0 r _ HC (Nat.le_refl _) HR).mono ?_; rintro e w' ⟨rfl, hd⟩))
  go_ret
  exact ⟨rfl, hb.trans ((Drawn0.below hd).mono (by simp))⟩
-- HAND fn=math/bits.LeadingZeros32 ; rounds=0 ; making=0 ; laid=0
def bits_LeadingZeros32.f (a : Int) : Option Int := if 0 ≤ a ∧ a ≤ 4294967295 then some (32 - (Lib.bitLen a.toNat : Int)) else none
theorem bits_LeadingZeros32.calls (a r : Int) (w : World) (h : bits_LeadingZeros32.f a = some r) :
    Calls Tryd.prog 60 #[.int .u32 a] w fun e w' => e = .returned (.int .i64 r) ∧ Drawn0 w w' := by
  unfold bits_LeadingZeros32.f at h
  split at h
  · rename_i hc
    obtain rfl := Option.some.inj h
    refine (Tryd.bits_LeadingZeros32 a w hc.1 hc.2).mono ?_
    rintro e w' ⟨rfl, rfl⟩
    exact ⟨rfl, Drawn0.refl _⟩
  · cases h
def onesOf (n : Int) : Option Int := if 0 ≤ wrap64 (32 - n) then some (shr .u32 4294967295 (wrap64 (32 - n))) else none
set_option maxHeartbeats 4000000 in
theorem alu_ones.calls (n r : Int) (w : World) (h : onesOf n = some r) : Calls Tryd.prog 57 #[.int .i64 n] w fun e w' => e = .returned (.int .u32 r) ∧ Drawn0 w w' := by
  unfold onesOf at h
  split at h
  · rename_i hc
    obtain rfl := Option.some.inj h
    go_enter Tryd.func57, Tryd.ntmps57
    go_wp2
    go_ret
    exact ⟨rfl, Drawn0.refl _⟩
  · cases h
-- HAND fn=ferry/alu.fields ; rounds=0 ; making=1 ; laid=0
def alu_fields.f (nm : ByteArray) (x1 x2 d a i s t : Int) : Option Int :=
  if nm.toList = [101, 120, 116] then (if 0 ≤ a then (onesOf (wrap64 (d + 1))).bind fun m => some (bits .and .u32 (shr .u32 s a) m) else none)
  else if nm.toList = [105, 110, 115] then (if 0 ≤ a then (onesOf (wrap64 (wrap64 (d + 1) - a))).bind fun m => some (bits .or .u32 (bits .andNot .u32 t (shl .u32 m a)) (bits .and .u32 (shl .u32 s a) (shl .u32 m a))) else none)
  else if nm.toList = [119, 115, 98, 104] then (bits_ReverseBytes32.f t).bind fun v => bits_RotateLeft32.f v 16
  else if nm.toList = [115, 101, 98] then swap_Sext.f t 8
  else if nm.toList = [115, 101, 104] then swap_Sext.f t 16
  else if nm.toList = [99, 108, 122] then (bits_LeadingZeros32.f s).bind fun v => some (v % 4294967296)
  else if nm.toList = [99, 108, 111] then (bits_LeadingZeros32.f (bits .xor .u32 IntKind.u32.max s)).bind fun v => some (v % 4294967296)
  else some (s * t % 4294967296)
set_option maxHeartbeats 8000000 in
set_option maxRecDepth 100000 in
theorem alu_fields.calls_ext (nm : ByteArray) (x1 x2 d a i s t r : Int) (w : World) (y : (nm.toList == [101, 120, 116]) = true) (h0 : 0 ≤ a) (m : Int) (hm : onesOf (wrap64 (d + 1)) = some m) (hr : bits .and .u32 (shr .u32 s a) m = r) :
    Calls Tryd.prog 40 #[.agg #[.string nm, .int .i64 x1, .int .i64 x2, .int .i64 d, .int .i64 a, .int .u32 i], .int .u32 s, .int .u32 t] w fun e w' => e = .returned (.int .u32 r) ∧ Below w.heap.size w w' := by
  have T1 := Lib.hid (one_block w (.cells #[.string nm, .int .i64 x1, .int .i64 x2, .int .i64 d, .int .i64 a, .int .u32 i] 29))
  subst hr
  have ON := Lib.hid (fun w => alu_ones.calls _ m w hm)
  clear hm
  go_enter Tryd.func40, Tryd.ntmps40
  go_wp2
  repeat (go_quiet (first | (go_at_call 57; refine (ON.out _).mono ?_; rintro e w' ⟨rfl, ⟨nd, rfl⟩⟩; exact ⟨rfl, _, World.drewN_drewN _ _ _⟩)); try go_wp2)
  go_ret
  exact ⟨rfl, T1.out.2.2.trans ⟨rfl, rfl, rfl, Nat.le_refl _, fun _ _ => rfl⟩⟩
set_option maxHeartbeats 8000000 in
set_option maxRecDepth 100000 in
theorem alu_fields.calls_ins (nm : ByteArray) (x1 x2 d a i s t r : Int) (w : World) (n_ext : (nm.toList == [101, 120, 116]) = false) (y : (nm.toList == [105, 110, 115]) = true) (h0 : 0 ≤ a) (m : Int) (hm : onesOf (wrap64 (wrap64 (d + 1) - a)) = some m) (hr : bits .or .u32 (bits .andNot .u32 t (shl .u32 m a)) (bits .and .u32 (shl .u32 s a) (shl .u32 m a)) = r) :
    Calls Tryd.prog 40 #[.agg #[.string nm, .int .i64 x1, .int .i64 x2, .int .i64 d, .int .i64 a, .int .u32 i], .int .u32 s, .int .u32 t] w fun e w' => e = .returned (.int .u32 r) ∧ Below w.heap.size w w' := by
  have T1 := Lib.hid (one_block w (.cells #[.string nm, .int .i64 x1, .int .i64 x2, .int .i64 d, .int .i64 a, .int .u32 i] 29))
  subst hr
  have ON := Lib.hid (fun w => alu_ones.calls _ m w hm)
  clear hm
  go_enter Tryd.func40, Tryd.ntmps40
  go_wp2
  repeat (go_quiet (first | (go_at_call 57; refine (ON.out _).mono ?_; rintro e w' ⟨rfl, ⟨nd, rfl⟩⟩; exact ⟨rfl, _, World.drewN_drewN _ _ _⟩)); try go_wp2)
  go_ret
  exact ⟨rfl, T1.out.2.2.trans ⟨rfl, rfl, rfl, Nat.le_refl _, fun _ _ => rfl⟩⟩
set_option maxHeartbeats 8000000 in
set_option maxRecDepth 100000 in
theorem alu_fields.calls_wsbh (nm : ByteArray) (x1 x2 d a i s t r : Int) (w : World) (n_ext : (nm.toList == [101, 120, 116]) = false) (n_ins : (nm.toList == [105, 110, 115]) = false) (y : (nm.toList == [119, 115, 98, 104]) = true) (v : Int) (hv : bits_ReverseBytes32.f t = some v) (hr : bits_RotateLeft32.f v 16 = some r) :
    Calls Tryd.prog 40 #[.agg #[.string nm, .int .i64 x1, .int .i64 x2, .int .i64 d, .int .i64 a, .int .u32 i], .int .u32 s, .int .u32 t] w fun e w' => e = .returned (.int .u32 r) ∧ Below w.heap.size w w' := by
  have T1 := Lib.hid (one_block w (.cells #[.string nm, .int .i64 x1, .int .i64 x2, .int .i64 d, .int .i64 a, .int .u32 i] 29))
  have RV := Lib.hid (fun w => bits_ReverseBytes32.calls _ v w hv)
  have RL := Lib.hid (fun w => bits_RotateLeft32.calls _ _ r w hr)
  clear hv hr
  go_enter Tryd.func40, Tryd.ntmps40
  go_wp2_with (first | (go_at_call 59; refine (RV.out _).mono ?_; rintro e w' ⟨rfl, ⟨nd, rfl⟩⟩) | (go_at_call 58; refine (RL.out _).mono ?_; rintro e w' ⟨rfl, ⟨nd2, rfl⟩⟩))
  go_ret
  exact ⟨rfl, T1.out.2.2.trans ⟨rfl, rfl, rfl, Nat.le_refl _, fun _ _ => rfl⟩⟩
set_option maxHeartbeats 8000000 in
set_option maxRecDepth 100000 in
theorem alu_fields.calls_seb (nm : ByteArray) (x1 x2 d a i s t r : Int) (w : World) (n_ext : (nm.toList == [101, 120, 116]) = false) (n_ins : (nm.toList == [105, 110, 115]) = false) (n_wsbh : (nm.toList == [119, 115, 98, 104]) = false) (y : (nm.toList == [115, 101, 98]) = true) (hr : swap_Sext.f t 8 = some r) :
    Calls Tryd.prog 40 #[.agg #[.string nm, .int .i64 x1, .int .i64 x2, .int .i64 d, .int .i64 a, .int .u32 i], .int .u32 s, .int .u32 t] w fun e w' => e = .returned (.int .u32 r) ∧ Below w.heap.size w w' := by
  have T1 := Lib.hid (one_block w (.cells #[.string nm, .int .i64 x1, .int .i64 x2, .int .i64 d, .int .i64 a, .int .u32 i] 29))
  have SX := Lib.hid (fun w => swap_Sext.calls _ _ r w hr)
  clear hr
  go_enter Tryd.func40, Tryd.ntmps40
  go_wp2_with (go_at_call 34; refine (SX.out _).mono ?_; rintro e w' ⟨rfl, ⟨nd, rfl⟩⟩)
  go_ret
  exact ⟨rfl, T1.out.2.2.trans ⟨rfl, rfl, rfl, Nat.le_refl _, fun _ _ => rfl⟩⟩
set_option maxHeartbeats 8000000 in
set_option maxRecDepth 100000 in
theorem alu_fields.calls_seh (nm : ByteArray) (x1 x2 d a i s t r : Int) (w : World) (n_ext : (nm.toList == [101, 120, 116]) = false) (n_ins : (nm.toList == [105, 110, 115]) = false) (n_wsbh : (nm.toList == [119, 115, 98, 104]) = false) (n_seb : (nm.toList == [115, 101, 98]) = false) (y : (nm.toList == [115, 101, 104]) = true) (hr : swap_Sext.f t 16 = some r) :
    Calls Tryd.prog 40 #[.agg #[.string nm, .int .i64 x1, .int .i64 x2, .int .i64 d, .int .i64 a, .int .u32 i], .int .u32 s, .int .u32 t] w fun e w' => e = .returned (.int .u32 r) ∧ Below w.heap.size w w' := by
  have T1 := Lib.hid (one_block w (.cells #[.string nm, .int .i64 x1, .int .i64 x2, .int .i64 d, .int .i64 a, .int .u32 i] 29))
  have SX := Lib.hid (fun w => swap_Sext.calls _ _ r w hr)
  clear hr
  go_enter Tryd.func40, Tryd.ntmps40
  go_wp2_with (go_at_call 34; refine (SX.out _).mono ?_; rintro e w' ⟨rfl, ⟨nd, rfl⟩⟩)
  go_ret
  exact ⟨rfl, T1.out.2.2.trans ⟨rfl, rfl, rfl, Nat.le_refl _, fun _ _ => rfl⟩⟩
set_option maxHeartbeats 8000000 in
set_option maxRecDepth 100000 in
theorem alu_fields.calls_clz (nm : ByteArray) (x1 x2 d a i s t r : Int) (w : World) (n_ext : (nm.toList == [101, 120, 116]) = false) (n_ins : (nm.toList == [105, 110, 115]) = false) (n_wsbh : (nm.toList == [119, 115, 98, 104]) = false) (n_seb : (nm.toList == [115, 101, 98]) = false) (n_seh : (nm.toList == [115, 101, 104]) = false) (y : (nm.toList == [99, 108, 122]) = true) (v : Int) (hv : bits_LeadingZeros32.f s = some v) (hr : v % 4294967296 = r) :
    Calls Tryd.prog 40 #[.agg #[.string nm, .int .i64 x1, .int .i64 x2, .int .i64 d, .int .i64 a, .int .u32 i], .int .u32 s, .int .u32 t] w fun e w' => e = .returned (.int .u32 r) ∧ Below w.heap.size w w' := by
  have T1 := Lib.hid (one_block w (.cells #[.string nm, .int .i64 x1, .int .i64 x2, .int .i64 d, .int .i64 a, .int .u32 i] 29))
  subst hr
  have LZ := Lib.hid (fun w => bits_LeadingZeros32.calls _ v w hv)
  clear hv
  go_enter Tryd.func40, Tryd.ntmps40
  go_wp2_with (go_at_call 60; refine (LZ.out _).mono ?_; rintro e w' ⟨rfl, ⟨nd, rfl⟩⟩)
  go_ret
  exact ⟨rfl, T1.out.2.2.trans ⟨rfl, rfl, rfl, Nat.le_refl _, fun _ _ => rfl⟩⟩
set_option maxHeartbeats 8000000 in
set_option maxRecDepth 100000 in
theorem alu_fields.calls_clo (nm : ByteArray) (x1 x2 d a i s t r : Int) (w : World) (n_ext : (nm.toList == [101, 120, 116]) = false) (n_ins : (nm.toList == [105, 110, 115]) = false) (n_wsbh : (nm.toList == [119, 115, 98, 104]) = false) (n_seb : (nm.toList == [115, 101, 98]) = false) (n_seh : (nm.toList == [115, 101, 104]) = false) (n_clz : (nm.toList == [99, 108, 122]) = false) (y : (nm.toList == [99, 108, 111]) = true) (v : Int) (hv : bits_LeadingZeros32.f (bits .xor .u32 IntKind.u32.max s) = some v) (hr : v % 4294967296 = r) :
    Calls Tryd.prog 40 #[.agg #[.string nm, .int .i64 x1, .int .i64 x2, .int .i64 d, .int .i64 a, .int .u32 i], .int .u32 s, .int .u32 t] w fun e w' => e = .returned (.int .u32 r) ∧ Below w.heap.size w w' := by
  have T1 := Lib.hid (one_block w (.cells #[.string nm, .int .i64 x1, .int .i64 x2, .int .i64 d, .int .i64 a, .int .u32 i] 29))
  subst hr
  have LZ := Lib.hid (fun w => bits_LeadingZeros32.calls _ v w hv)
  clear hv
  go_enter Tryd.func40, Tryd.ntmps40
  go_wp2_with (go_at_call 60; refine (LZ.out _).mono ?_; rintro e w' ⟨rfl, ⟨nd, rfl⟩⟩)
  go_ret
  exact ⟨rfl, T1.out.2.2.trans ⟨rfl, rfl, rfl, Nat.le_refl _, fun _ _ => rfl⟩⟩
set_option maxHeartbeats 8000000 in
set_option maxRecDepth 100000 in
theorem alu_fields.calls_mul (nm : ByteArray) (x1 x2 d a i s t r : Int) (w : World) (n_ext : (nm.toList == [101, 120, 116]) = false) (n_ins : (nm.toList == [105, 110, 115]) = false) (n_wsbh : (nm.toList == [119, 115, 98, 104]) = false) (n_seb : (nm.toList == [115, 101, 98]) = false) (n_seh : (nm.toList == [115, 101, 104]) = false) (n_clz : (nm.toList == [99, 108, 122]) = false) (n_clo : (nm.toList == [99, 108, 111]) = false) (hr : s * t % 4294967296 = r) :
    Calls Tryd.prog 40 #[.agg #[.string nm, .int .i64 x1, .int .i64 x2, .int .i64 d, .int .i64 a, .int .u32 i], .int .u32 s, .int .u32 t] w fun e w' => e = .returned (.int .u32 r) ∧ Below w.heap.size w w' := by
  have T1 := Lib.hid (one_block w (.cells #[.string nm, .int .i64 x1, .int .i64 x2, .int .i64 d, .int .i64 a, .int .u32 i] 29))
  subst hr
  go_enter Tryd.func40, Tryd.ntmps40
  go_wp2
  go_ret
  exact ⟨rfl, T1.out.2.2⟩
theorem alu_fields.calls (nm : ByteArray) (x1 x2 d a i s t r : Int) (w : World) (h : alu_fields.f nm x1 x2 d a i s t = some r) :
    Calls Tryd.prog 40 #[.agg #[.string nm, .int .i64 x1, .int .i64 x2, .int .i64 d, .int .i64 a, .int .u32 i], .int .u32 s, .int .u32 t] w fun e w' => e = .returned (.int .u32 r) ∧ Below w.heap.size w w' := by
  unfold alu_fields.f at h
  by_cases c0 : nm.toList = [101, 120, 116]
  · rw [if_pos c0] at h
    by_cases h0 : 0 ≤ a
    · rw [if_pos h0] at h
      obtain ⟨m, hm, hr⟩ := Option.bind_eq_some_iff.1 h
      exact alu_fields.calls_ext nm x1 x2 d a i s t r w (beq_iff_eq.2 c0) h0 m hm (Option.some.inj hr)
    rw [if_neg h0] at h
    cases h
  rw [if_neg c0] at h
  by_cases c1 : nm.toList = [105, 110, 115]
  · rw [if_pos c1] at h
    by_cases h0 : 0 ≤ a
    · rw [if_pos h0] at h
      obtain ⟨m, hm, hr⟩ := Option.bind_eq_some_iff.1 h
      exact alu_fields.calls_ins nm x1 x2 d a i s t r w (beq_eq_false_iff_ne.2 c0) (beq_iff_eq.2 c1) h0 m hm (Option.some.inj hr)
    rw [if_neg h0] at h
    cases h
  rw [if_neg c1] at h
  by_cases c2 : nm.toList = [119, 115, 98, 104]
  · rw [if_pos c2] at h
    obtain ⟨v, hv, hr⟩ := Option.bind_eq_some_iff.1 h
    exact alu_fields.calls_wsbh nm x1 x2 d a i s t r w (beq_eq_false_iff_ne.2 c0) (beq_eq_false_iff_ne.2 c1) (beq_iff_eq.2 c2) v hv hr
  rw [if_neg c2] at h
  by_cases c3 : nm.toList = [115, 101, 98]
  · rw [if_pos c3] at h
    exact alu_fields.calls_seb nm x1 x2 d a i s t r w (beq_eq_false_iff_ne.2 c0) (beq_eq_false_iff_ne.2 c1) (beq_eq_false_iff_ne.2 c2) (beq_iff_eq.2 c3) h
  rw [if_neg c3] at h
  by_cases c4 : nm.toList = [115, 101, 104]
  · rw [if_pos c4] at h
    exact alu_fields.calls_seh nm x1 x2 d a i s t r w (beq_eq_false_iff_ne.2 c0) (beq_eq_false_iff_ne.2 c1) (beq_eq_false_iff_ne.2 c2) (beq_eq_false_iff_ne.2 c3) (beq_iff_eq.2 c4) h
  rw [if_neg c4] at h
  by_cases c5 : nm.toList = [99, 108, 122]
  · rw [if_pos c5] at h
    obtain ⟨v, hv, hr⟩ := Option.bind_eq_some_iff.1 h
    exact alu_fields.calls_clz nm x1 x2 d a i s t r w (beq_eq_false_iff_ne.2 c0) (beq_eq_false_iff_ne.2 c1) (beq_eq_false_iff_ne.2 c2) (beq_eq_false_iff_ne.2 c3) (beq_eq_false_iff_ne.2 c4) (beq_iff_eq.2 c5) v hv (Option.some.inj hr)
  rw [if_neg c5] at h
  by_cases c6 : nm.toList = [99, 108, 111]
  · rw [if_pos c6] at h
    obtain ⟨v, hv, hr⟩ := Option.bind_eq_some_iff.1 h
    exact alu_fields.calls_clo nm x1 x2 d a i s t r w (beq_eq_false_iff_ne.2 c0) (beq_eq_false_iff_ne.2 c1) (beq_eq_false_iff_ne.2 c2) (beq_eq_false_iff_ne.2 c3) (beq_eq_false_iff_ne.2 c4) (beq_eq_false_iff_ne.2 c5) (beq_iff_eq.2 c6) v hv (Option.some.inj hr)
  rw [if_neg c6] at h
  exact alu_fields.calls_mul nm x1 x2 d a i s t r w (beq_eq_false_iff_ne.2 c0) (beq_eq_false_iff_ne.2 c1) (beq_eq_false_iff_ne.2 c2) (beq_eq_false_iff_ne.2 c3) (beq_eq_false_iff_ne.2 c4) (beq_eq_false_iff_ne.2 c5) (beq_eq_false_iff_ne.2 c6) (Option.some.inj h)
end Go.Proofs.YtnddjndgfaefaaaDoor.F
end
section
namespace Go.Proofs.YtnddjndgfaefaaaDoor.F
open Go.RowKit Go.Shelf Go.Proofs.YtnddjndgfaefaaaDoorW.PrintWords Go.Proofs.YtnddjndgfaefaaaDoorW.PrintLast Go.Proofs.YtnddjndgfaefaaaDoorW.PrintMore
set_option linter.unusedVariables false
set_option linter.unusedSimpArgs false
set_option maxHeartbeats 4000000 in
set_option maxRecDepth 100000 in
theorem do_idle (pn po : Addr) (w : World) :
    CallsD Tryd.prog 17 #[.pointer (some pn), .pointer (some po)] .returning w fun e u' w' => e = .returned (.tuple #[]) ∧ u' = .returning ∧ w' = w := by
  refine callsD_of_wpS Tryd.func17 rfl fun c₀ cs hu => ?_
  apply wpS_seq
  apply wpS_region
  simp [wpOpsS, go_sem, recoverD, hu, Tryd.ntmps17, Exit.thenS]
  apply wpS_seq
  apply wpS_region
  simp [wpOpsS, go_sem, recoverD, hu, Tryd.ntmps17, Exit.thenS]
  refine wpS_cond (t := false) (by simp [Act.eval, Array.replicate]) ?_
  simp only [Bool.false_eq_true, if_false]
  refine wpS_of_wp (wp_skip ?_)
  cases c₀
  simp_all [bodyPostS, results, Tryd.results17]
set_option maxHeartbeats 4000000 in
set_option maxRecDepth 100000 in
theorem do_panicking (pn po : Addr) (vn vo : Value) (older : List PanicEntry) (w : World) (hn : w.cell? pn = some vn) (ho : w.cell? po = some vo) (hnf : w.frozen? pn = false) (hof : w.frozen? po = false) (hne : pn ≠ po) (hbn : pn.block < w.heap.size) (hbo : po.block < w.heap.size) :
    CallsD Tryd.prog 17 #[.pointer (some pn), .pointer (some po)] (.panicking ({ v := .iface 37 (.agg #[]), recovered := false } :: older)) w fun e u' w' =>
      e = .returned (.tuple #[]) ∧ u' = .panicking ({ v := .iface 37 (.agg #[]), recovered := true } :: older) ∧ w' = ((w.alloc (.cells #[] 37)).setCell pn (.int .u32 0)).setCell po (.bool false) := by
  refine callsD_of_wpS Tryd.func17 rfl fun c₀ cs hu => ?_
  apply wpS_seq
  apply wpS_region
  simp [wpOpsS, go_sem, recoverD, hu, Tryd.ntmps17, Exit.thenS]
  apply wpS_seq
  apply wpS_region
  simp [wpOpsS, go_sem, recoverD, hu, Tryd.ntmps17, Exit.thenS]
  refine wpS_cond (t := true) (by simp [Act.eval, Array.replicate]) ?_
  simp only [if_true]
  refine wpS_of_wp ?_
  have hta : ∀ w, (Instr.typeAssert (.iface 37 (.agg #[])) 20 37 true).run Tryd.prog w = .ok (.tuple #[.agg #[], .bool true]) w := fun _ => rfl
  have z1 : (w.alloc (.cells #[] 37)).frozen? pn = false := (World.frozen?_alloc_old w _ pn (by omega)).trans hnf
  have z2 : (w.alloc (.cells #[] 37)).frozen? po = false := (World.frozen?_alloc_old w _ po (by omega)).trans hof
  go_wp2
  simp [bodyPostS, results, Tryd.results17]
end Go.Proofs.YtnddjndgfaefaaaDoor.F
end
section
namespace Go.Proofs.YtnddjndgfaefaaaDoor.F
open Go.RowKit Go.Proofs.YtnddjndgfaefaaaDoorW.PrintWords Go.Proofs.YtnddjndgfaefaaaDoorW.PrintLast Go.Proofs.YtnddjndgfaefaaaDoorW.PrintMore
attribute [local go_sem] max2_int min2_int max_two min_two max_three min_three max_four min_four
set_option linter.unusedVariables false
set_option linter.unusedSimpArgs false

def alu_truth.f (a0 : Bool) : Option (Int) := if a0 = true then (some 1) else (some 0)
set_option maxHeartbeats 8000000 in
set_option maxRecDepth 100000 in
theorem alu_truth.calls (a0 : Bool) (r : Int) (w : World) (h : alu_truth.f a0 = some r) :
    Calls Tryd.prog 36 #[.bool a0] w fun e w' => e = .returned (.int .u32 r) ∧ Drawn0 w w' := by
  have H : (if a0 = true then (some 1) else (some 0)) = some r := h
  clear h
  by_cases c2 : a0 = true
  · subst c2
    have H1 : (some 1) = some r := by rw [if_pos rfl] at H; exact H
    clear H
    have H := H1
    clear H1
    obtain rfl := Option.some.inj H
    go_enter Tryd.func36, Tryd.ntmps36
    go_wp2
    go_ret
    exact ⟨by first | rfl | (simp; done) | (simp [*]; done), by repeat (first | exact Drawn0.refl _ | apply Drawn0.step)⟩
  replace c2 := Bool.eq_false_iff.mpr c2
  subst c2
  have H1 : (some 0) = some r := by rw [if_neg (show ¬ (false = true) by decide)] at H; exact H
  clear H
  have H := H1
  clear H1
  obtain rfl := Option.some.inj H
  go_enter Tryd.func36, Tryd.ntmps36
  go_wp2
  go_ret
  exact ⟨by first | rfl | (simp; done) | (simp [*]; done), by repeat (first | exact Drawn0.refl _ | apply Drawn0.step)⟩

end Go.Proofs.YtnddjndgfaefaaaDoor.F
end
