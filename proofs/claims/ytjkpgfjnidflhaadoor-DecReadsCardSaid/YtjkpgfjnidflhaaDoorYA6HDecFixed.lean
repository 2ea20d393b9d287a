import Derived.Below
import Derived.Deep.Draws
import Derived.Deep.AppendLies
import Derived.Maps.AppendAt
import Derived.OwnWalk
import Derived.Laws.BytesArg
import Derived.Laws.MakeOwn
import Derived.Laws.OwnMore
import Derived.Deep.OwnRows
import Derived.Tactics
import Derived.Lib.ConvBytes
import Derived.Laws.Slices
import Derived.WalkKit
import Derived.KernelRfl
import Derived.RowKit3
import Derived.Deep.LoopGhost
import Derived.Deep.QuietTactic
import Derived.BigQuiet
import Derived.WideLaws
import Derived.Deep.DeepCutAuto
import Derived.Deep.CutBlock
import Derived.Deep.RegionHeld3
import Derived.Laws.Rows
import Derived.Lib.AppendStr
import Derived.ArgAppend
import Derived.Laws.IdiomCopy
import Derived.RowKit
import Derived.OrdersHeld
import Derived.Laws.BitsLemmas
import Derived.Laws.StructEq
import Derived.ProofKit
import Derived.Lib.Hide
import Derived.Maps.OwnOps
import Derived.RangeFuncRecord
import Derived.Shelf.LaysM
import Derived.Shelf.Strings.Replace
import Derived.Lib.LaidTab
import Derived.Shelf.Abstract
import Derived.OwnWalkIn
import Derived.WalkSmall
import Derived.Laws.ResultCell
import Derived.Shelf.RegionOpen
import Derived.Deep.RegionWith
import Derived.Test.YtjkpgfjnidflhaaDoorZF0
import Derived.Test.YtjkpgfjnidflhaaDoorYA2HDecMap
import Derived.Test.YtjkpgfjnidflhaaDoorYA5HDecTake
section
namespace Go.Proofs.YtjkpgfjnidflhaaDoor.F
open Go.RowKit Go.Shelf Go.Proofs.YtjkpgfjnidflhaaDoorW.PrintWords Go.Proofs.YtjkpgfjnidflhaaDoorW.PrintLast Go.Proofs.YtjkpgfjnidflhaaDoorW.PrintMore
set_option linter.unusedVariables false
set_option linter.unusedSimpArgs false
theorem one_block (w : World) (a : Obj) : (w.alloc a).heap[w.heap.size]? = some a ∧ (w.alloc a).heap.size = w.heap.size + 1 ∧ Below w.heap.size w (w.alloc a) :=
  ⟨World.alloc_heap_new w _, World.size_alloc _ _, (Below.refl _ w).alloc (Nat.le_refl _) _⟩
def fixedOf (form : List UInt8) (op sub w0 : Int) : Int :=
  if op = 1 then bits .or .u32 67108864 (sub * 65536 % 4294967296)
  else if form = [100, 116] then bits .or .u32 (bits .or .u32 (op * 67108864 % 4294967296) (bits .and .u32 sub 63)) (sub / 64 * 64 % 4294967296)
  else if form = [100, 116, 114] then bits .or .u32 (bits .or .u32 (op * 67108864 % 4294967296) (bits .and .u32 sub 63)) 2097152
  else if form = [100, 116, 118] then bits .or .u32 (bits .or .u32 (op * 67108864 % 4294967296) (bits .and .u32 sub 63)) 64
  else if form = [100, 115, 100] then bits .or .u32 (bits .or .u32 (op * 67108864 % 4294967296) (bits .and .u32 sub 63)) (bits .and .u32 (w0 / 2048) 31 * 65536 % 4294967296)
  else bits .or .u32 (op * 67108864 % 4294967296) (bits .and .u32 sub 63)
set_option maxHeartbeats 4000000 in
set_option maxRecDepth 100000 in
theorem row_fixed.calls (nm form : ByteArray) (op sub w0 : Int) (w : World) (r : Int) (hr : fixedOf form.toList op sub w0 = r) :
    Calls Tryd.prog 31 #[.agg #[.string nm, .int .u32 op, .int .u32 sub, .string form], .int .u32 w0] w fun e w' => e = .returned (.int .u32 r) ∧ Below w.heap.size w w' := by
  have WH := Lib.hid (fun w => dec_where.calls w)
  have T1 := Lib.hid (one_block w (.cells #[.string nm, .int .u32 op, .int .u32 sub, .string form] 38))
  unfold fixedOf at hr
  by_cases h1 : op = 1
  · rw [if_pos h1] at hr
    subst h1 hr
    go_enter Tryd.func31, Tryd.ntmps31
    go_wp2_with (go_at_call 27; (with_reducible refine (WH.out _).mono ?_); rintro ex w1 ⟨rfl, hM, hb1⟩; rw [T1.out.2.1] at hM; have M1 := Lib.hid hM; clear hM; have B1 := Lib.hid (T1.out.2.2.trans (hb1.mono (by rw [T1.out.2.1]; omega))); have R1 := Lib.hid ((hb1.block _ (by rw [T1.out.2.1]; omega)).trans T1.out.1); clear hb1; have c1 := dblk_cell (j := 1) (v := .int .u32 1) R1.out rfl; have c2 := dblk_cell (j := 2) (v := .int .u32 sub) R1.out rfl; have c3 := dblk_cell (j := 3) (v := .string form) R1.out rfl; have k115 := look115 _ w1 M1.out; have k116 := look116 _ w1 M1.out; have k100 := look100 _ w1 M1.out; have k97 := look97 _ w1 M1.out)
    go_ret
    exact ⟨rfl, B1.out⟩
  · rw [if_neg h1] at hr
    have b0 : (op == 1) = false := beq_eq_false_iff_ne.2 h1
    clear h1
    by_cases g0 : form.toList = [100, 116]
    · rw [if_pos g0] at hr
      have b1 : (form.toList == [100, 116]) = true := beq_iff_eq.2 g0
      subst hr
      clear g0
      go_enter Tryd.func31, Tryd.ntmps31
      go_wp2_with (go_at_call 27; (with_reducible refine (WH.out _).mono ?_); rintro ex w1 ⟨rfl, hM, hb1⟩; rw [T1.out.2.1] at hM; have M1 := Lib.hid hM; clear hM; have B1 := Lib.hid (T1.out.2.2.trans (hb1.mono (by rw [T1.out.2.1]; omega))); have R1 := Lib.hid ((hb1.block _ (by rw [T1.out.2.1]; omega)).trans T1.out.1); clear hb1; have c1 := dblk_cell (j := 1) (v := .int .u32 op) R1.out rfl; have c2 := dblk_cell (j := 2) (v := .int .u32 sub) R1.out rfl; have c3 := dblk_cell (j := 3) (v := .string form) R1.out rfl; have k115 := look115 _ w1 M1.out; have k116 := look116 _ w1 M1.out; have k100 := look100 _ w1 M1.out; have k97 := look97 _ w1 M1.out)
      go_ret
      exact ⟨rfl, B1.out⟩
    · rw [if_neg g0] at hr
      have b1 : (form.toList == [100, 116]) = false := beq_eq_false_iff_ne.2 g0
      clear g0
      by_cases g1 : form.toList = [100, 116, 114]
      · rw [if_pos g1] at hr
        have b2 : (form.toList == [100, 116, 114]) = true := beq_iff_eq.2 g1
        subst hr
        clear g1
        go_enter Tryd.func31, Tryd.ntmps31
        go_wp2_with (go_at_call 27; (with_reducible refine (WH.out _).mono ?_); rintro ex w1 ⟨rfl, hM, hb1⟩; rw [T1.out.2.1] at hM; have M1 := Lib.hid hM; clear hM; have B1 := Lib.hid (T1.out.2.2.trans (hb1.mono (by rw [T1.out.2.1]; omega))); have R1 := Lib.hid ((hb1.block _ (by rw [T1.out.2.1]; omega)).trans T1.out.1); clear hb1; have c1 := dblk_cell (j := 1) (v := .int .u32 op) R1.out rfl; have c2 := dblk_cell (j := 2) (v := .int .u32 sub) R1.out rfl; have c3 := dblk_cell (j := 3) (v := .string form) R1.out rfl; have k115 := look115 _ w1 M1.out; have k116 := look116 _ w1 M1.out; have k100 := look100 _ w1 M1.out; have k97 := look97 _ w1 M1.out)
        go_ret
        exact ⟨rfl, B1.out⟩
      · rw [if_neg g1] at hr
        have b2 : (form.toList == [100, 116, 114]) = false := beq_eq_false_iff_ne.2 g1
        clear g1
        by_cases g2 : form.toList = [100, 116, 118]
        · rw [if_pos g2] at hr
          have b3 : (form.toList == [100, 116, 118]) = true := beq_iff_eq.2 g2
          subst hr
          clear g2
          go_enter Tryd.func31, Tryd.ntmps31
          go_wp2_with (go_at_call 27; (with_reducible refine (WH.out _).mono ?_); rintro ex w1 ⟨rfl, hM, hb1⟩; rw [T1.out.2.1] at hM; have M1 := Lib.hid hM; clear hM; have B1 := Lib.hid (T1.out.2.2.trans (hb1.mono (by rw [T1.out.2.1]; omega))); have R1 := Lib.hid ((hb1.block _ (by rw [T1.out.2.1]; omega)).trans T1.out.1); clear hb1; have c1 := dblk_cell (j := 1) (v := .int .u32 op) R1.out rfl; have c2 := dblk_cell (j := 2) (v := .int .u32 sub) R1.out rfl; have c3 := dblk_cell (j := 3) (v := .string form) R1.out rfl; have k115 := look115 _ w1 M1.out; have k116 := look116 _ w1 M1.out; have k100 := look100 _ w1 M1.out; have k97 := look97 _ w1 M1.out)
          go_ret
          exact ⟨rfl, B1.out⟩
        · rw [if_neg g2] at hr
          have b3 : (form.toList == [100, 116, 118]) = false := beq_eq_false_iff_ne.2 g2
          clear g2
          by_cases g3 : form.toList = [100, 115, 100]
          · rw [if_pos g3] at hr
            have b4 : (form.toList == [100, 115, 100]) = true := beq_iff_eq.2 g3
            subst hr
            clear g3
            go_enter Tryd.func31, Tryd.ntmps31
            go_wp2_with (go_at_call 27; (with_reducible refine (WH.out _).mono ?_); rintro ex w1 ⟨rfl, hM, hb1⟩; rw [T1.out.2.1] at hM; have M1 := Lib.hid hM; clear hM; have B1 := Lib.hid (T1.out.2.2.trans (hb1.mono (by rw [T1.out.2.1]; omega))); have R1 := Lib.hid ((hb1.block _ (by rw [T1.out.2.1]; omega)).trans T1.out.1); clear hb1; have c1 := dblk_cell (j := 1) (v := .int .u32 op) R1.out rfl; have c2 := dblk_cell (j := 2) (v := .int .u32 sub) R1.out rfl; have c3 := dblk_cell (j := 3) (v := .string form) R1.out rfl; have k115 := look115 _ w1 M1.out; have k116 := look116 _ w1 M1.out; have k100 := look100 _ w1 M1.out; have k97 := look97 _ w1 M1.out)
            go_ret
            exact ⟨rfl, B1.out⟩
          · rw [if_neg g3] at hr
            have b4 : (form.toList == [100, 115, 100]) = false := beq_eq_false_iff_ne.2 g3
            clear g3
            subst hr
            go_enter Tryd.func31, Tryd.ntmps31
            go_wp2_with (go_at_call 27; (with_reducible refine (WH.out _).mono ?_); rintro ex w1 ⟨rfl, hM, hb1⟩; rw [T1.out.2.1] at hM; have M1 := Lib.hid hM; clear hM; have B1 := Lib.hid (T1.out.2.2.trans (hb1.mono (by rw [T1.out.2.1]; omega))); have R1 := Lib.hid ((hb1.block _ (by rw [T1.out.2.1]; omega)).trans T1.out.1); clear hb1; have c1 := dblk_cell (j := 1) (v := .int .u32 op) R1.out rfl; have c2 := dblk_cell (j := 2) (v := .int .u32 sub) R1.out rfl; have c3 := dblk_cell (j := 3) (v := .string form) R1.out rfl; have k115 := look115 _ w1 M1.out; have k116 := look116 _ w1 M1.out; have k100 := look100 _ w1 M1.out; have k97 := look97 _ w1 M1.out)
            go_ret
            exact ⟨rfl, B1.out⟩
end Go.Proofs.YtjkpgfjnidflhaaDoor.F
end
