import Derived.Below
import Derived.Deep.Draws
import Derived.Deep.AppendLies
import Derived.Maps.AppendAt
import Derived.OwnWalk
import Derived.Laws.BytesArg
import Derived.Laws.MakeOwn
import Derived.Laws.OwnMore
import Derived.Deep.OwnRows
import Derived.Tactics
import Derived.Lib.ConvBytes
import Derived.Laws.Slices
import Derived.WalkKit
import Derived.KernelRfl
import Derived.RowKit3
import Derived.Deep.LoopGhost
import Derived.Deep.QuietTactic
import Derived.BigQuiet
import Derived.WideLaws
import Derived.Deep.DeepCutAuto
import Derived.Deep.CutBlock
import Derived.Deep.RegionHeld3
import Derived.Laws.Rows
import Derived.Lib.AppendStr
import Derived.ArgAppend
import Derived.Laws.IdiomCopy
import Derived.RowKit
import Derived.OrdersHeld
import Derived.Laws.BitsLemmas
import Derived.Laws.StructEq
import Derived.OwnWalkIn
import Derived.WalkSmall
import Derived.Laws.ResultCell
import Derived.RangeFuncRecord
import Derived.ProofKit
import Derived.Lib.Hide
import Derived.Deep.RegionWith
import Derived.Test.YtnddjndgfaefaaaDoorVZF0
import Derived.Test.YtnddjndgfaefaaaDoorVA21HDecSpecial
import Derived.Test.YtnddjndgfaefaaaDoorVA23HDecGuess
section
namespace Go.Proofs.YtnddjndgfaefaaaDoor.F
open Go.RowKit Go.Proofs.YtnddjndgfaefaaaDoorW.PrintWords Go.Proofs.YtnddjndgfaefaaaDoorW.PrintLast Go.Proofs.YtnddjndgfaefaaaDoorW.PrintMore
attribute [local go_sem] max2_int min2_int max_two min_two max_three min_three max_four min_four
set_option linter.unusedVariables false
set_option linter.unusedSimpArgs false

def ferryref07_Encode.j0 : Nat → Int → Int → Int → Int → ByteArray → Bool → ByteArray → Int → Int → Int → Int → Int → Int → Int → Int → ByteArray → Option (Int × Bool)
  | 0, _, _, _, _, _, _, _, _, _, _, _, _, _, _, _, _ => none
  | k + 1, x5, x6, x7, x8, x29, x46, x213000, x213001, x213002, x213003, x213004, x213005, x218000, x218001, x218002, x218003 => if x46 = true then (if x218000 = 1 then (some (Go.bits .or .u32 (Go.bits .or .u32 (Go.bits .or .u32 x8 ((x5 * 2097152) % 4294967296)) ((x218001 * 65536) % 4294967296)) x213005, true)) else (some (Go.bits .or .u32 (Go.bits .or .u32 (Go.bits .or .u32 x8 ((x5 * 2097152) % 4294967296)) ((x6 * 65536) % 4294967296)) x213005, true))) else (if x29.toList = ([100, 115, 100] : List UInt8) then (some (Go.bits .or .u32 (Go.bits .or .u32 (Go.bits .or .u32 (Go.bits .or .u32 (Go.bits .or .u32 x8 ((x5 * 2097152) % 4294967296)) ((((x213003) % 4294967296) * 65536) % 4294967296)) ((((x213003) % 4294967296) * 2048) % 4294967296)) ((x7 * 64) % 4294967296)) x218001, true)) else (if x29.toList = ([100, 116, 114] : List UInt8) then (some (Go.bits .or .u32 (Go.bits .or .u32 (Go.bits .or .u32 (Go.bits .or .u32 (Go.bits .or .u32 x8 (1 * 2097152)) ((x6 * 65536) % 4294967296)) ((((x213003) % 4294967296) * 2048) % 4294967296)) ((x7 * 64) % 4294967296)) x218001, true)) else (if x29.toList = ([100, 116, 118] : List UInt8) then (some (Go.bits .or .u32 (Go.bits .or .u32 (Go.bits .or .u32 (Go.bits .or .u32 (Go.bits .or .u32 x8 ((x5 * 2097152) % 4294967296)) ((x6 * 65536) % 4294967296)) ((((x213003) % 4294967296) * 2048) % 4294967296)) (1 * 64)) x218001, true)) else (if x29.toList = ([100, 116] : List UInt8) then (some (Go.bits .or .u32 (Go.bits .or .u32 (Go.bits .or .u32 (Go.bits .or .u32 (Go.bits .or .u32 x8 ((x5 * 2097152) % 4294967296)) ((x6 * 65536) % 4294967296)) ((((x213003) % 4294967296) * 2048) % 4294967296)) ((x218002 * 64) % 4294967296)) x218001, true)) else (some (Go.bits .or .u32 (Go.bits .or .u32 (Go.bits .or .u32 (Go.bits .or .u32 (Go.bits .or .u32 x8 ((x5 * 2097152) % 4294967296)) ((x6 * 65536) % 4294967296)) ((((x213003) % 4294967296) * 2048) % 4294967296)) ((x7 * 64) % 4294967296)) x218001, true))))))
def ferryref07_Encode.f (k : Nat) (a0_0 : ByteArray) (a0_1 : Int) (a0_2 : Int) (a0_3 : Int) (a0_4 : Int) (a0_5 : Int) : Option (Int × Bool) := (ferryref07_special.f a0_0).bind fun bt213 => ((ferryref07_fit.f a0_0 a0_1 a0_2 a0_3 a0_4 a0_5 bt213.1 bt213.2.1 bt213.2.2.1 bt213.2.2.2).bind fun t218 => (if t218 = true then (if bt213.2.2.2.toList = ([106] : List UInt8) then (some (Go.bits .or .u32 ((bt213.1 * 67108864) % 4294967296) a0_5, true)) else (if bt213.2.2.2.toList = ([99] : List UInt8) then (some (Go.bits .or .u32 (Go.bits .or .u32 ((bt213.1 * 67108864) % 4294967296) ((a0_5 * 64) % 4294967296)) bt213.2.1, true)) else (if bt213.2.2.2.toList = ([115, 111] : List UInt8) then (ferryref07_Encode.j0 k ((a0_1) % 4294967296) ((a0_2) % 4294967296) ((a0_4) % 4294967296) ((bt213.1 * 67108864) % 4294967296) bt213.2.2.2 (bt213.2.2.2.toList == ([115, 111] : List UInt8)) a0_0 a0_1 a0_2 a0_3 a0_4 a0_5 bt213.1 bt213.2.1 bt213.2.2.1 bt213.2.2.2) else (if bt213.2.2.2.toList = ([115, 116, 111] : List UInt8) then (ferryref07_Encode.j0 k ((a0_1) % 4294967296) ((a0_2) % 4294967296) ((a0_4) % 4294967296) ((bt213.1 * 67108864) % 4294967296) bt213.2.2.2 (bt213.2.2.2.toList == ([115, 116, 111] : List UInt8)) a0_0 a0_1 a0_2 a0_3 a0_4 a0_5 bt213.1 bt213.2.1 bt213.2.2.1 bt213.2.2.2) else (if bt213.2.2.2.toList = ([116, 115, 105] : List UInt8) then (ferryref07_Encode.j0 k ((a0_1) % 4294967296) ((a0_2) % 4294967296) ((a0_4) % 4294967296) ((bt213.1 * 67108864) % 4294967296) bt213.2.2.2 (bt213.2.2.2.toList == ([116, 115, 105] : List UInt8)) a0_0 a0_1 a0_2 a0_3 a0_4 a0_5 bt213.1 bt213.2.1 bt213.2.2.1 bt213.2.2.2) else (if bt213.2.2.2.toList = ([116, 105] : List UInt8) then (ferryref07_Encode.j0 k ((a0_1) % 4294967296) ((a0_2) % 4294967296) ((a0_4) % 4294967296) ((bt213.1 * 67108864) % 4294967296) bt213.2.2.2 (bt213.2.2.2.toList == ([116, 105] : List UInt8)) a0_0 a0_1 a0_2 a0_3 a0_4 a0_5 bt213.1 bt213.2.1 bt213.2.2.1 bt213.2.2.2) else (ferryref07_Encode.j0 k ((a0_1) % 4294967296) ((a0_2) % 4294967296) ((a0_4) % 4294967296) ((bt213.1 * 67108864) % 4294967296) bt213.2.2.2 (bt213.2.2.2.toList == ([116, 109] : List UInt8)) a0_0 a0_1 a0_2 a0_3 a0_4 a0_5 bt213.1 bt213.2.1 bt213.2.2.1 bt213.2.2.2))))))) else (some (0, false))))
set_option maxHeartbeats 8000000 in
set_option maxRecDepth 100000 in
theorem ferryref07_Encode.calls (k : Nat) (a0_0 : ByteArray) (a0_1 : Int) (a0_2 : Int) (a0_3 : Int) (a0_4 : Int) (a0_5 : Int) (r1 : Int) (r2 : Bool) (w : World) (h : ferryref07_Encode.f k a0_0 a0_1 a0_2 a0_3 a0_4 a0_5 = some (r1, r2)) :
    Calls Tryd.prog 22 #[.agg #[.string a0_0, .int .i64 a0_1, .int .i64 a0_2, .int .i64 a0_3, .int .i64 a0_4, .int .u32 a0_5]] w fun e w' => e = .returned (.tuple #[.int .u32 r1, .bool r2]) ∧ Below w.heap.size w w' := by
  have hu29 := Tryd.underlying29
  have hu60 := Tryd.underlying60
  have HB := Aside0.mk (Below.refl w.heap.size w)
  have H : ((ferryref07_special.f a0_0).bind fun bt213 => ((ferryref07_fit.f a0_0 a0_1 a0_2 a0_3 a0_4 a0_5 bt213.1 bt213.2.1 bt213.2.2.1 bt213.2.2.2).bind fun t218 => (if t218 = true then (if bt213.2.2.2.toList = ([106] : List UInt8) then (some (Go.bits .or .u32 ((bt213.1 * 67108864) % 4294967296) a0_5, true)) else (if bt213.2.2.2.toList = ([99] : List UInt8) then (some (Go.bits .or .u32 (Go.bits .or .u32 ((bt213.1 * 67108864) % 4294967296) ((a0_5 * 64) % 4294967296)) bt213.2.1, true)) else (if bt213.2.2.2.toList = ([115, 111] : List UInt8) then (ferryref07_Encode.j0 k ((a0_1) % 4294967296) ((a0_2) % 4294967296) ((a0_4) % 4294967296) ((bt213.1 * 67108864) % 4294967296) bt213.2.2.2 (bt213.2.2.2.toList == ([115, 111] : List UInt8)) a0_0 a0_1 a0_2 a0_3 a0_4 a0_5 bt213.1 bt213.2.1 bt213.2.2.1 bt213.2.2.2) else (if bt213.2.2.2.toList = ([115, 116, 111] : List UInt8) then (ferryref07_Encode.j0 k ((a0_1) % 4294967296) ((a0_2) % 4294967296) ((a0_4) % 4294967296) ((bt213.1 * 67108864) % 4294967296) bt213.2.2.2 (bt213.2.2.2.toList == ([115, 116, 111] : List UInt8)) a0_0 a0_1 a0_2 a0_3 a0_4 a0_5 bt213.1 bt213.2.1 bt213.2.2.1 bt213.2.2.2) else (if bt213.2.2.2.toList = ([116, 115, 105] : List UInt8) then (ferryref07_Encode.j0 k ((a0_1) % 4294967296) ((a0_2) % 4294967296) ((a0_4) % 4294967296) ((bt213.1 * 67108864) % 4294967296) bt213.2.2.2 (bt213.2.2.2.toList == ([116, 115, 105] : List UInt8)) a0_0 a0_1 a0_2 a0_3 a0_4 a0_5 bt213.1 bt213.2.1 bt213.2.2.1 bt213.2.2.2) else (if bt213.2.2.2.toList = ([116, 105] : List UInt8) then (ferryref07_Encode.j0 k ((a0_1) % 4294967296) ((a0_2) % 4294967296) ((a0_4) % 4294967296) ((bt213.1 * 67108864) % 4294967296) bt213.2.2.2 (bt213.2.2.2.toList == ([116, 105] : List UInt8)) a0_0 a0_1 a0_2 a0_3 a0_4 a0_5 bt213.1 bt213.2.1 bt213.2.2.1 bt213.2.2.2) else (ferryref07_Encode.j0 k ((a0_1) % 4294967296) ((a0_2) % 4294967296) ((a0_4) % 4294967296) ((bt213.1 * 67108864) % 4294967296) bt213.2.2.2 (bt213.2.2.2.toList == ([116, 109] : List UInt8)) a0_0 a0_1 a0_2 a0_3 a0_4 a0_5 bt213.1 bt213.2.1 bt213.2.2.1 bt213.2.2.2))))))) else (some (0, false))))) = some (r1, r2) := h
  clear h
  replace H := Option.bind_eq_some_iff.mp H
  obtain ⟨⟨t213, t214, t215, t216⟩, A20, H⟩ := H
  replace H : ((ferryref07_fit.f a0_0 a0_1 a0_2 a0_3 a0_4 a0_5 t213 t214 t215 t216).bind fun t218 => (if t218 = true then (if t216.toList = ([106] : List UInt8) then (some (Go.bits .or .u32 ((t213 * 67108864) % 4294967296) a0_5, true)) else (if t216.toList = ([99] : List UInt8) then (some (Go.bits .or .u32 (Go.bits .or .u32 ((t213 * 67108864) % 4294967296) ((a0_5 * 64) % 4294967296)) t214, true)) else (if t216.toList = ([115, 111] : List UInt8) then (ferryref07_Encode.j0 k ((a0_1) % 4294967296) ((a0_2) % 4294967296) ((a0_4) % 4294967296) ((t213 * 67108864) % 4294967296) t216 (t216.toList == ([115, 111] : List UInt8)) a0_0 a0_1 a0_2 a0_3 a0_4 a0_5 t213 t214 t215 t216) else (if t216.toList = ([115, 116, 111] : List UInt8) then (ferryref07_Encode.j0 k ((a0_1) % 4294967296) ((a0_2) % 4294967296) ((a0_4) % 4294967296) ((t213 * 67108864) % 4294967296) t216 (t216.toList == ([115, 116, 111] : List UInt8)) a0_0 a0_1 a0_2 a0_3 a0_4 a0_5 t213 t214 t215 t216) else (if t216.toList = ([116, 115, 105] : List UInt8) then (ferryref07_Encode.j0 k ((a0_1) % 4294967296) ((a0_2) % 4294967296) ((a0_4) % 4294967296) ((t213 * 67108864) % 4294967296) t216 (t216.toList == ([116, 115, 105] : List UInt8)) a0_0 a0_1 a0_2 a0_3 a0_4 a0_5 t213 t214 t215 t216) else (if t216.toList = ([116, 105] : List UInt8) then (ferryref07_Encode.j0 k ((a0_1) % 4294967296) ((a0_2) % 4294967296) ((a0_4) % 4294967296) ((t213 * 67108864) % 4294967296) t216 (t216.toList == ([116, 105] : List UInt8)) a0_0 a0_1 a0_2 a0_3 a0_4 a0_5 t213 t214 t215 t216) else (ferryref07_Encode.j0 k ((a0_1) % 4294967296) ((a0_2) % 4294967296) ((a0_4) % 4294967296) ((t213 * 67108864) % 4294967296) t216 (t216.toList == ([116, 109] : List UInt8)) a0_0 a0_1 a0_2 a0_3 a0_4 a0_5 t213 t214 t215 t216))))))) else (some (0, false)))) = some (r1, r2) := H
  have A2 := Aside0.mk A20
  clear A20
  replace H := Option.bind_eq_some_iff.mp H
  obtain ⟨t218, A30, H⟩ := H
  replace H : (if t218 = true then (if t216.toList = ([106] : List UInt8) then (some (Go.bits .or .u32 ((t213 * 67108864) % 4294967296) a0_5, true)) else (if t216.toList = ([99] : List UInt8) then (some (Go.bits .or .u32 (Go.bits .or .u32 ((t213 * 67108864) % 4294967296) ((a0_5 * 64) % 4294967296)) t214, true)) else (if t216.toList = ([115, 111] : List UInt8) then (ferryref07_Encode.j0 k ((a0_1) % 4294967296) ((a0_2) % 4294967296) ((a0_4) % 4294967296) ((t213 * 67108864) % 4294967296) t216 (t216.toList == ([115, 111] : List UInt8)) a0_0 a0_1 a0_2 a0_3 a0_4 a0_5 t213 t214 t215 t216) else (if t216.toList = ([115, 116, 111] : List UInt8) then (ferryref07_Encode.j0 k ((a0_1) % 4294967296) ((a0_2) % 4294967296) ((a0_4) % 4294967296) ((t213 * 67108864) % 4294967296) t216 (t216.toList == ([115, 116, 111] : List UInt8)) a0_0 a0_1 a0_2 a0_3 a0_4 a0_5 t213 t214 t215 t216) else (if t216.toList = ([116, 115, 105] : List UInt8) then (ferryref07_Encode.j0 k ((a0_1) % 4294967296) ((a0_2) % 4294967296) ((a0_4) % 4294967296) ((t213 * 67108864) % 4294967296) t216 (t216.toList == ([116, 115, 105] : List UInt8)) a0_0 a0_1 a0_2 a0_3 a0_4 a0_5 t213 t214 t215 t216) else (if t216.toList = ([116, 105] : List UInt8) then (ferryref07_Encode.j0 k ((a0_1) % 4294967296) ((a0_2) % 4294967296) ((a0_4) % 4294967296) ((t213 * 67108864) % 4294967296) t216 (t216.toList == ([116, 105] : List UInt8)) a0_0 a0_1 a0_2 a0_3 a0_4 a0_5 t213 t214 t215 t216) else (ferryref07_Encode.j0 k ((a0_1) % 4294967296) ((a0_2) % 4294967296) ((a0_4) % 4294967296) ((t213 * 67108864) % 4294967296) t216 (t216.toList == ([116, 109] : List UInt8)) a0_0 a0_1 a0_2 a0_3 a0_4 a0_5 t213 t214 t215 t216))))))) else (some (0, false))) = some (r1, r2) := H
  have A3 := Aside0.mk A30
  clear A30
  by_cases c4 : t218 = true
  · subst c4
    have H1 : (if t216.toList = ([106] : List UInt8) then (some (Go.bits .or .u32 ((t213 * 67108864) % 4294967296) a0_5, true)) else (if t216.toList = ([99] : List UInt8) then (some (Go.bits .or .u32 (Go.bits .or .u32 ((t213 * 67108864) % 4294967296) ((a0_5 * 64) % 4294967296)) t214, true)) else (if t216.toList = ([115, 111] : List UInt8) then (ferryref07_Encode.j0 k ((a0_1) % 4294967296) ((a0_2) % 4294967296) ((a0_4) % 4294967296) ((t213 * 67108864) % 4294967296) t216 (t216.toList == ([115, 111] : List UInt8)) a0_0 a0_1 a0_2 a0_3 a0_4 a0_5 t213 t214 t215 t216) else (if t216.toList = ([115, 116, 111] : List UInt8) then (ferryref07_Encode.j0 k ((a0_1) % 4294967296) ((a0_2) % 4294967296) ((a0_4) % 4294967296) ((t213 * 67108864) % 4294967296) t216 (t216.toList == ([115, 116, 111] : List UInt8)) a0_0 a0_1 a0_2 a0_3 a0_4 a0_5 t213 t214 t215 t216) else (if t216.toList = ([116, 115, 105] : List UInt8) then (ferryref07_Encode.j0 k ((a0_1) % 4294967296) ((a0_2) % 4294967296) ((a0_4) % 4294967296) ((t213 * 67108864) % 4294967296) t216 (t216.toList == ([116, 115, 105] : List UInt8)) a0_0 a0_1 a0_2 a0_3 a0_4 a0_5 t213 t214 t215 t216) else (if t216.toList = ([116, 105] : List UInt8) then (ferryref07_Encode.j0 k ((a0_1) % 4294967296) ((a0_2) % 4294967296) ((a0_4) % 4294967296) ((t213 * 67108864) % 4294967296) t216 (t216.toList == ([116, 105] : List UInt8)) a0_0 a0_1 a0_2 a0_3 a0_4 a0_5 t213 t214 t215 t216) else (ferryref07_Encode.j0 k ((a0_1) % 4294967296) ((a0_2) % 4294967296) ((a0_4) % 4294967296) ((t213 * 67108864) % 4294967296) t216 (t216.toList == ([116, 109] : List UInt8)) a0_0 a0_1 a0_2 a0_3 a0_4 a0_5 t213 t214 t215 t216))))))) = some (r1, r2) := by rw [if_pos rfl] at H; exact H
    clear H
    have H := H1
    clear H1
    by_cases c5 : t216.toList = ([106] : List UInt8)
    · rw [if_pos c5] at H
      have c5b0 : (t216.toList == ([106] : List UInt8)) = true := beq_iff_eq.mpr c5
      have c5b1 : (t216.toList != ([106] : List UInt8)) = false := bne_eq_false_iff_eq.mpr c5
      clear c5
      simp only [Option.some.injEq, Prod.mk.injEq] at H
      obtain ⟨rfl, rfl⟩ := H
      go_enter Tryd.func22, Tryd.ntmps22
      go_wp2_with (first | ((with_reducible refine gate_dst (N := 1) rfl ?_); refine box_event ?hg (N := 1) ?hd (cs := #[.string a0_0, .int .i64 a0_1, .int .i64 a0_2, .int .i64 a0_3, .int .i64 a0_4, .int .u32 a0_5]) (t := 29) ?hr ?_; (case hd => rfl); (case hg => rfl); (case hr => first | (go_simp; done) | (go_simp; rfl)); intro gb212 hg w6 hbox hb; have n0_ := Aside0.mk (below_step (by repeat (first | (with_reducible first | exact HB.out | apply below_alloc | apply pw_below_drewN | apply below_drew1) | exact HB.out)) hb); have n1_ := Aside0.mk (hbox); have n2_ := Aside0.mk ((by rw [hg]; exact (below_size (by repeat (first | (with_reducible first | exact HB.out | apply below_alloc | apply pw_below_drewN | apply below_drew1) | exact HB.out))) : w.heap.size ≤ gb212)); have n3_ := Aside0.mk ((by rw [hg]; exact (below_size (by repeat (first | (with_reducible first | exact HB.out | apply below_alloc | apply pw_below_drewN | apply below_drew1) | exact HB.out))) : w.heap.size ≤ gb212)); clear HB; have HB := n0_; have BK212 := n1_; have GW212 := n2_; have GE212 := n3_; clear n0_ n1_ n2_ n3_; clear hb hbox hg; have hcz7_0 : w6.cell? ⟨gb212, 0, none⟩ = some (.string a0_0) := (blk_cell BK212.out 0).trans rfl; have hcz7_1 : w6.cell? ⟨gb212, 1, none⟩ = some (.int .i64 a0_1) := (blk_cell BK212.out 1).trans rfl; have hcz7_2 : w6.cell? ⟨gb212, 2, none⟩ = some (.int .i64 a0_2) := (blk_cell BK212.out 2).trans rfl; have hcz7_3 : w6.cell? ⟨gb212, 3, none⟩ = some (.int .i64 a0_3) := (blk_cell BK212.out 3).trans rfl; have hcz7_4 : w6.cell? ⟨gb212, 4, none⟩ = some (.int .i64 a0_4) := (blk_cell BK212.out 4).trans rfl; have hcz7_5 : w6.cell? ⟨gb212, 5, none⟩ = some (.int .u32 a0_5) := (blk_cell BK212.out 5).trans rfl; have hfz7_0 := blk_frozen BK212.out 0; have hfz7_1 := blk_frozen BK212.out 1; have hfz7_2 := blk_frozen BK212.out 2; have hfz7_3 := blk_frozen BK212.out 3; have hfz7_4 := blk_frozen BK212.out 4; have hfz7_5 := blk_frozen BK212.out 5) | ((with_reducible refine gate_callee (f := 41) rfl ?_); refine goesL_ (some 11) rfl rfl Tryd.func41 (by kernel_rfl) rfl #[.string a0_0] rfl (by (try simp only [List.map_toArray, List.map_cons, List.map_nil]); first | done | rfl | (simp only [List.length_drop, List.length_take]; rfl)) ?_; (with_reducible refine (ferryref07_special.calls a0_0 t213 t214 t215 t216 _ A2.out).mono ?_); rintro e w8 ⟨rfl, hb⟩; refine ⟨_, rfl, ?_⟩; have n0_ := Aside0.mk (blk_below (g := gb212) (o := .cells #[.string a0_0, .int .i64 a0_1, .int .i64 a0_2, .int .i64 a0_3, .int .i64 a0_4, .int .u32 a0_5] 29 (0, 0)) (by (with_reducible repeat (first | refine blk_drewN ?_ _ | refine blk_drew ?_ | refine blk_alloc ?_ _)); exact BK212.out) hb); have n1_ := Aside0.mk (below_step (by repeat (first | (with_reducible first | exact HB.out | apply below_alloc | apply pw_below_drewN | apply below_drew1 | refine below_set ?_ GE212.out) | exact HB.out)) hb); clear BK212; clear HB; have BK212 := n0_; have HB := n1_; clear n0_ n1_; (try clear hb); (try clear hb2); (try clear hk); (try clear hi)) | ((with_reducible refine gate_dst (N := 4) rfl ?_); refine box_event ?hg (N := 4) ?hd (cs := #[.int .u32 0, .int .u32 0, .int .u32 0, .string (⟨#[]⟩ : ByteArray)]) (t := 60) ?hr ?_; (case hd => rfl); (case hg => rfl); (case hr => first | (go_simp; done) | (go_simp; rfl)); intro gb217 hg w9 hbox hb; have n0_ := Aside0.mk (blk_below (g := gb212) (o := .cells #[.string a0_0, .int .i64 a0_1, .int .i64 a0_2, .int .i64 a0_3, .int .i64 a0_4, .int .u32 a0_5] 29 (0, 0)) (by (with_reducible repeat (first | refine blk_drewN ?_ _ | refine blk_drew ?_ | refine blk_alloc ?_ _)); exact BK212.out) hb); have n1_ := Aside0.mk (below_step (by repeat (first | (with_reducible first | exact HB.out | apply below_alloc | apply pw_below_drewN | apply below_drew1 | refine below_set ?_ GE212.out) | exact HB.out)) hb); have n2_ := Aside0.mk (hbox); have n3_ := Aside0.mk ((by rw [hg]; exact (below_size (by repeat (first | (with_reducible first | exact HB.out | apply below_alloc | apply pw_below_drewN | apply below_drew1 | refine below_set ?_ GE212.out) | exact HB.out))) : w.heap.size ≤ gb217)); have n4_ := Aside0.mk ((by rw [hg]; exact (below_size (by repeat (first | (with_reducible first | exact HB.out | apply below_alloc | apply pw_below_drewN | apply below_drew1 | refine below_set ?_ GE212.out) | exact HB.out))) : w.heap.size ≤ gb217)); have n5_ := Aside0.mk ((by rw [hg]; exact Nat.ne_of_lt (blk_lt (g := gb212) (o := .cells #[.string a0_0, .int .i64 a0_1, .int .i64 a0_2, .int .i64 a0_3, .int .i64 a0_4, .int .u32 a0_5] 29 (0, 0)) (by (with_reducible repeat (first | refine blk_drewN ?_ _ | refine blk_drew ?_ | refine blk_alloc ?_ _)); exact BK212.out)) : gb212 ≠ gb217)); have n6_ := Aside0.mk ((by rw [hg]; exact Nat.ne_of_gt (blk_lt (g := gb212) (o := .cells #[.string a0_0, .int .i64 a0_1, .int .i64 a0_2, .int .i64 a0_3, .int .i64 a0_4, .int .u32 a0_5] 29 (0, 0)) (by (with_reducible repeat (first | refine blk_drewN ?_ _ | refine blk_drew ?_ | refine blk_alloc ?_ _)); exact BK212.out)) : gb217 ≠ gb212)); clear BK212; clear HB; have BK212 := n0_; have HB := n1_; have BK217 := n2_; have GW217 := n3_; have GE217 := n4_; have NB212_217 := n5_; have NB217_212 := n6_; clear n0_ n1_ n2_ n3_ n4_ n5_ n6_; clear hb hbox hg; have hnb10 := NB217_212.out; have hnc10 := NB212_217.out; have hcz11_0 : w9.cell? ⟨gb217, 0, none⟩ = some (.int .u32 0) := (blk_cell BK217.out 0).trans rfl; have hcz11_1 : w9.cell? ⟨gb217, 1, none⟩ = some (.int .u32 0) := (blk_cell BK217.out 1).trans rfl; have hcz11_2 : w9.cell? ⟨gb217, 2, none⟩ = some (.int .u32 0) := (blk_cell BK217.out 2).trans rfl; have hcz11_3 : w9.cell? ⟨gb217, 3, none⟩ = some (.string (⟨#[]⟩ : ByteArray)) := (blk_cell BK217.out 3).trans rfl; have hfz11_0 := blk_frozen BK217.out 0; have hfz11_1 := blk_frozen BK217.out 1; have hfz11_2 := blk_frozen BK217.out 2; have hfz11_3 := blk_frozen BK217.out 3; have hcz12_0 : w9.cell? ⟨gb212, 0, none⟩ = some (.string a0_0) := (blk_cell BK212.out 0).trans rfl; have hcz12_1 : w9.cell? ⟨gb212, 1, none⟩ = some (.int .i64 a0_1) := (blk_cell BK212.out 1).trans rfl; have hcz12_2 : w9.cell? ⟨gb212, 2, none⟩ = some (.int .i64 a0_2) := (blk_cell BK212.out 2).trans rfl; have hcz12_3 : w9.cell? ⟨gb212, 3, none⟩ = some (.int .i64 a0_3) := (blk_cell BK212.out 3).trans rfl; have hcz12_4 : w9.cell? ⟨gb212, 4, none⟩ = some (.int .i64 a0_4) := (blk_cell BK212.out 4).trans rfl; have hcz12_5 : w9.cell? ⟨gb212, 5, none⟩ = some (.int .u32 a0_5) := (blk_cell BK212.out 5).trans rfl; have hfz12_0 := blk_frozen BK212.out 0; have hfz12_1 := blk_frozen BK212.out 1; have hfz12_2 := blk_frozen BK212.out 2; have hfz12_3 := blk_frozen BK212.out 3; have hfz12_4 := blk_frozen BK212.out 4; have hfz12_5 := blk_frozen BK212.out 5) | ((with_reducible refine gate_callee (f := 42) rfl ?_); refine goesL_ (some 14) rfl rfl Tryd.func42 (by kernel_rfl) rfl #[.agg #[.string a0_0, .int .i64 a0_1, .int .i64 a0_2, .int .i64 a0_3, .int .i64 a0_4, .int .u32 a0_5], .agg #[.int .u32 t213, .int .u32 t214, .int .u32 t215, .string t216]] rfl (by (try simp only [List.map_toArray, List.map_cons, List.map_nil]); first | done | rfl | (simp only [List.length_drop, List.length_take]; rfl)) ?_; (with_reducible refine (ferryref07_fit.calls a0_0 a0_1 a0_2 a0_3 a0_4 a0_5 t213 t214 t215 t216 true _ A3.out).mono ?_); rintro e w13 ⟨rfl, hb⟩; refine ⟨_, rfl, ?_⟩; have n0_ := Aside0.mk (blk_below (g := gb212) (o := .cells #[.string a0_0, .int .i64 a0_1, .int .i64 a0_2, .int .i64 a0_3, .int .i64 a0_4, .int .u32 a0_5] 29 (0, 0)) (by (with_reducible repeat (first | refine blk_drewN ?_ _ | refine blk_drew ?_ | refine blk_alloc ?_ _)); refine blk_far ?_ NB212_217.out _; (with_reducible repeat (first | refine blk_drewN ?_ _ | refine blk_drew ?_ | refine blk_alloc ?_ _)); refine blk_far ?_ NB212_217.out _; (with_reducible repeat (first | refine blk_drewN ?_ _ | refine blk_drew ?_ | refine blk_alloc ?_ _)); refine blk_far ?_ NB212_217.out _; (with_reducible repeat (first | refine blk_drewN ?_ _ | refine blk_drew ?_ | refine blk_alloc ?_ _)); refine blk_far ?_ NB212_217.out _; (with_reducible repeat (first | refine blk_drewN ?_ _ | refine blk_drew ?_ | refine blk_alloc ?_ _)); exact BK212.out) hb); have n1_ := Aside0.mk (blk_below (g := gb217) (o := .cells #[.int .u32 t213, .int .u32 t214, .int .u32 t215, .string t216] 60 (0, 0)) (by (with_reducible repeat (first | refine blk_drewN ?_ _ | refine blk_drew ?_ | refine blk_alloc ?_ _)); refine blk_put (cs := #[.int .u32 t213, .int .u32 t214, .int .u32 t215, .string (⟨#[]⟩ : ByteArray)]) ?_ 3 _ rfl; (with_reducible repeat (first | refine blk_drewN ?_ _ | refine blk_drew ?_ | refine blk_alloc ?_ _)); refine blk_put (cs := #[.int .u32 t213, .int .u32 t214, .int .u32 0, .string (⟨#[]⟩ : ByteArray)]) ?_ 2 _ rfl; (with_reducible repeat (first | refine blk_drewN ?_ _ | refine blk_drew ?_ | refine blk_alloc ?_ _)); refine blk_put (cs := #[.int .u32 t213, .int .u32 0, .int .u32 0, .string (⟨#[]⟩ : ByteArray)]) ?_ 1 _ rfl; (with_reducible repeat (first | refine blk_drewN ?_ _ | refine blk_drew ?_ | refine blk_alloc ?_ _)); refine blk_put (cs := #[.int .u32 0, .int .u32 0, .int .u32 0, .string (⟨#[]⟩ : ByteArray)]) ?_ 0 _ rfl; (with_reducible repeat (first | refine blk_drewN ?_ _ | refine blk_drew ?_ | refine blk_alloc ?_ _)); exact BK217.out) hb); have n2_ := Aside0.mk (below_step (by repeat (first | (with_reducible first | exact HB.out | apply below_alloc | apply pw_below_drewN | apply below_drew1 | refine below_set ?_ GE212.out | refine below_set ?_ GE217.out) | exact HB.out)) hb); clear BK212; clear BK217; clear HB; have BK212 := n0_; have BK217 := n1_; have HB := n2_; clear n0_ n1_ n2_; (try clear hb); (try clear hb2); (try clear hk); (try clear hi); have hcz14_0 : w13.cell? ⟨gb212, 0, none⟩ = some (.string a0_0) := (blk_cell BK212.out 0).trans rfl; have hcz14_1 : w13.cell? ⟨gb212, 1, none⟩ = some (.int .i64 a0_1) := (blk_cell BK212.out 1).trans rfl; have hcz14_2 : w13.cell? ⟨gb212, 2, none⟩ = some (.int .i64 a0_2) := (blk_cell BK212.out 2).trans rfl; have hcz14_3 : w13.cell? ⟨gb212, 3, none⟩ = some (.int .i64 a0_3) := (blk_cell BK212.out 3).trans rfl; have hcz14_4 : w13.cell? ⟨gb212, 4, none⟩ = some (.int .i64 a0_4) := (blk_cell BK212.out 4).trans rfl; have hcz14_5 : w13.cell? ⟨gb212, 5, none⟩ = some (.int .u32 a0_5) := (blk_cell BK212.out 5).trans rfl; have hfz14_0 := blk_frozen BK212.out 0; have hfz14_1 := blk_frozen BK212.out 1; have hfz14_2 := blk_frozen BK212.out 2; have hfz14_3 := blk_frozen BK212.out 3; have hfz14_4 := blk_frozen BK212.out 4; have hfz14_5 := blk_frozen BK212.out 5; have hcz15_0 : w13.cell? ⟨gb217, 0, none⟩ = some (.int .u32 t213) := (blk_cell BK217.out 0).trans rfl; have hcz15_1 : w13.cell? ⟨gb217, 1, none⟩ = some (.int .u32 t214) := (blk_cell BK217.out 1).trans rfl; have hcz15_2 : w13.cell? ⟨gb217, 2, none⟩ = some (.int .u32 t215) := (blk_cell BK217.out 2).trans rfl; have hcz15_3 : w13.cell? ⟨gb217, 3, none⟩ = some (.string t216) := (blk_cell BK217.out 3).trans rfl; have hfz15_0 := blk_frozen BK217.out 0; have hfz15_1 := blk_frozen BK217.out 1; have hfz15_2 := blk_frozen BK217.out 2; have hfz15_3 := blk_frozen BK217.out 3))
      go_ret2
      exact ⟨by first | rfl | (simp [errW_none, errW_some] <;> rfl) | (simp [*, errW_none, errW_some] <;> rfl), by repeat (first | (with_reducible first | exact HB.out | apply below_alloc | apply pw_below_drewN | apply below_drew1 | refine below_set ?_ GE212.out | refine below_set ?_ GE217.out) | exact HB.out)⟩
    rw [if_neg c5] at H
    have c5b0 : (t216.toList == ([106] : List UInt8)) = false := beq_eq_false_iff_ne.mpr c5
    have c5b1 : (t216.toList != ([106] : List UInt8)) = true := bne_iff_ne.mpr c5
    by_cases c16 : t216.toList = ([99] : List UInt8)
    · rw [if_pos c16] at H
      have c16b0 : (t216.toList == ([99] : List UInt8)) = true := beq_iff_eq.mpr c16
      have c16b1 : (t216.toList != ([99] : List UInt8)) = false := bne_eq_false_iff_eq.mpr c16
      clear c16
      simp only [Option.some.injEq, Prod.mk.injEq] at H
      obtain ⟨rfl, rfl⟩ := H
      go_enter Tryd.func22, Tryd.ntmps22
      go_wp2_with (first | ((with_reducible refine gate_dst (N := 1) rfl ?_); refine box_event ?hg (N := 1) ?hd (cs := #[.string a0_0, .int .i64 a0_1, .int .i64 a0_2, .int .i64 a0_3, .int .i64 a0_4, .int .u32 a0_5]) (t := 29) ?hr ?_; (case hd => rfl); (case hg => rfl); (case hr => first | (go_simp; done) | (go_simp; rfl)); intro gb212 hg w17 hbox hb; have n0_ := Aside0.mk (below_step (by repeat (first | (with_reducible first | exact HB.out | apply below_alloc | apply pw_below_drewN | apply below_drew1) | exact HB.out)) hb); have n1_ := Aside0.mk (hbox); have n2_ := Aside0.mk ((by rw [hg]; exact (below_size (by repeat (first | (with_reducible first | exact HB.out | apply below_alloc | apply pw_below_drewN | apply below_drew1) | exact HB.out))) : w.heap.size ≤ gb212)); have n3_ := Aside0.mk ((by rw [hg]; exact (below_size (by repeat (first | (with_reducible first | exact HB.out | apply below_alloc | apply pw_below_drewN | apply below_drew1) | exact HB.out))) : w.heap.size ≤ gb212)); clear HB; have HB := n0_; have BK212 := n1_; have GW212 := n2_; have GE212 := n3_; clear n0_ n1_ n2_ n3_; clear hb hbox hg; have hcz18_0 : w17.cell? ⟨gb212, 0, none⟩ = some (.string a0_0) := (blk_cell BK212.out 0).trans rfl; have hcz18_1 : w17.cell? ⟨gb212, 1, none⟩ = some (.int .i64 a0_1) := (blk_cell BK212.out 1).trans rfl; have hcz18_2 : w17.cell? ⟨gb212, 2, none⟩ = some (.int .i64 a0_2) := (blk_cell BK212.out 2).trans rfl; have hcz18_3 : w17.cell? ⟨gb212, 3, none⟩ = some (.int .i64 a0_3) := (blk_cell BK212.out 3).trans rfl; have hcz18_4 : w17.cell? ⟨gb212, 4, none⟩ = some (.int .i64 a0_4) := (blk_cell BK212.out 4).trans rfl; have hcz18_5 : w17.cell? ⟨gb212, 5, none⟩ = some (.int .u32 a0_5) := (blk_cell BK212.out 5).trans rfl; have hfz18_0 := blk_frozen BK212.out 0; have hfz18_1 := blk_frozen BK212.out 1; have hfz18_2 := blk_frozen BK212.out 2; have hfz18_3 := blk_frozen BK212.out 3; have hfz18_4 := blk_frozen BK212.out 4; have hfz18_5 := blk_frozen BK212.out 5) | ((with_reducible refine gate_callee (f := 41) rfl ?_); refine goesL_ (some 11) rfl rfl Tryd.func41 (by kernel_rfl) rfl #[.string a0_0] rfl (by (try simp only [List.map_toArray, List.map_cons, List.map_nil]); first | done | rfl | (simp only [List.length_drop, List.length_take]; rfl)) ?_; (with_reducible refine (ferryref07_special.calls a0_0 t213 t214 t215 t216 _ A2.out).mono ?_); rintro e w19 ⟨rfl, hb⟩; refine ⟨_, rfl, ?_⟩; have n0_ := Aside0.mk (blk_below (g := gb212) (o := .cells #[.string a0_0, .int .i64 a0_1, .int .i64 a0_2, .int .i64 a0_3, .int .i64 a0_4, .int .u32 a0_5] 29 (0, 0)) (by (with_reducible repeat (first | refine blk_drewN ?_ _ | refine blk_drew ?_ | refine blk_alloc ?_ _)); exact BK212.out) hb); have n1_ := Aside0.mk (below_step (by repeat (first | (with_reducible first | exact HB.out | apply below_alloc | apply pw_below_drewN | apply below_drew1 | refine below_set ?_ GE212.out) | exact HB.out)) hb); clear BK212; clear HB; have BK212 := n0_; have HB := n1_; clear n0_ n1_; (try clear hb); (try clear hb2); (try clear hk); (try clear hi)) | ((with_reducible refine gate_dst (N := 4) rfl ?_); refine box_event ?hg (N := 4) ?hd (cs := #[.int .u32 0, .int .u32 0, .int .u32 0, .string (⟨#[]⟩ : ByteArray)]) (t := 60) ?hr ?_; (case hd => rfl); (case hg => rfl); (case hr => first | (go_simp; done) | (go_simp; rfl)); intro gb217 hg w20 hbox hb; have n0_ := Aside0.mk (blk_below (g := gb212) (o := .cells #[.string a0_0, .int .i64 a0_1, .int .i64 a0_2, .int .i64 a0_3, .int .i64 a0_4, .int .u32 a0_5] 29 (0, 0)) (by (with_reducible repeat (first | refine blk_drewN ?_ _ | refine blk_drew ?_ | refine blk_alloc ?_ _)); exact BK212.out) hb); have n1_ := Aside0.mk (below_step (by repeat (first | (with_reducible first | exact HB.out | apply below_alloc | apply pw_below_drewN | apply below_drew1 | refine below_set ?_ GE212.out) | exact HB.out)) hb); have n2_ := Aside0.mk (hbox); have n3_ := Aside0.mk ((by rw [hg]; exact (below_size (by repeat (first | (with_reducible first | exact HB.out | apply below_alloc | apply pw_below_drewN | apply below_drew1 | refine below_set ?_ GE212.out) | exact HB.out))) : w.heap.size ≤ gb217)); have n4_ := Aside0.mk ((by rw [hg]; exact (below_size (by repeat (first | (with_reducible first | exact HB.out | apply below_alloc | apply pw_below_drewN | apply below_drew1 | refine below_set ?_ GE212.out) | exact HB.out))) : w.heap.size ≤ gb217)); have n5_ := Aside0.mk ((by rw [hg]; exact Nat.ne_of_lt (blk_lt (g := gb212) (o := .cells #[.string a0_0, .int .i64 a0_1, .int .i64 a0_2, .int .i64 a0_3, .int .i64 a0_4, .int .u32 a0_5] 29 (0, 0)) (by (with_reducible repeat (first | refine blk_drewN ?_ _ | refine blk_drew ?_ | refine blk_alloc ?_ _)); exact BK212.out)) : gb212 ≠ gb217)); have n6_ := Aside0.mk ((by rw [hg]; exact Nat.ne_of_gt (blk_lt (g := gb212) (o := .cells #[.string a0_0, .int .i64 a0_1, .int .i64 a0_2, .int .i64 a0_3, .int .i64 a0_4, .int .u32 a0_5] 29 (0, 0)) (by (with_reducible repeat (first | refine blk_drewN ?_ _ | refine blk_drew ?_ | refine blk_alloc ?_ _)); exact BK212.out)) : gb217 ≠ gb212)); clear BK212; clear HB; have BK212 := n0_; have HB := n1_; have BK217 := n2_; have GW217 := n3_; have GE217 := n4_; have NB212_217 := n5_; have NB217_212 := n6_; clear n0_ n1_ n2_ n3_ n4_ n5_ n6_; clear hb hbox hg; have hnb21 := NB217_212.out; have hnc21 := NB212_217.out; have hcz22_0 : w20.cell? ⟨gb217, 0, none⟩ = some (.int .u32 0) := (blk_cell BK217.out 0).trans rfl; have hcz22_1 : w20.cell? ⟨gb217, 1, none⟩ = some (.int .u32 0) := (blk_cell BK217.out 1).trans rfl; have hcz22_2 : w20.cell? ⟨gb217, 2, none⟩ = some (.int .u32 0) := (blk_cell BK217.out 2).trans rfl; have hcz22_3 : w20.cell? ⟨gb217, 3, none⟩ = some (.string (⟨#[]⟩ : ByteArray)) := (blk_cell BK217.out 3).trans rfl; have hfz22_0 := blk_frozen BK217.out 0; have hfz22_1 := blk_frozen BK217.out 1; have hfz22_2 := blk_frozen BK217.out 2; have hfz22_3 := blk_frozen BK217.out 3; have hcz23_0 : w20.cell? ⟨gb212, 0, none⟩ = some (.string a0_0) := (blk_cell BK212.out 0).trans rfl; have hcz23_1 : w20.cell? ⟨gb212, 1, none⟩ = some (.int .i64 a0_1) := (blk_cell BK212.out 1).trans rfl; have hcz23_2 : w20.cell? ⟨gb212, 2, none⟩ = some (.int .i64 a0_2) := (blk_cell BK212.out 2).trans rfl; have hcz23_3 : w20.cell? ⟨gb212, 3, none⟩ = some (.int .i64 a0_3) := (blk_cell BK212.out 3).trans rfl; have hcz23_4 : w20.cell? ⟨gb212, 4, none⟩ = some (.int .i64 a0_4) := (blk_cell BK212.out 4).trans rfl; have hcz23_5 : w20.cell? ⟨gb212, 5, none⟩ = some (.int .u32 a0_5) := (blk_cell BK212.out 5).trans rfl; have hfz23_0 := blk_frozen BK212.out 0; have hfz23_1 := blk_frozen BK212.out 1; have hfz23_2 := blk_frozen BK212.out 2; have hfz23_3 := blk_frozen BK212.out 3; have hfz23_4 := blk_frozen BK212.out 4; have hfz23_5 := blk_frozen BK212.out 5) | ((with_reducible refine gate_callee (f := 42) rfl ?_); refine goesL_ (some 14) rfl rfl Tryd.func42 (by kernel_rfl) rfl #[.agg #[.string a0_0, .int .i64 a0_1, .int .i64 a0_2, .int .i64 a0_3, .int .i64 a0_4, .int .u32 a0_5], .agg #[.int .u32 t213, .int .u32 t214, .int .u32 t215, .string t216]] rfl (by (try simp only [List.map_toArray, List.map_cons, List.map_nil]); first | done | rfl | (simp only [List.length_drop, List.length_take]; rfl)) ?_; (with_reducible refine (ferryref07_fit.calls a0_0 a0_1 a0_2 a0_3 a0_4 a0_5 t213 t214 t215 t216 true _ A3.out).mono ?_); rintro e w24 ⟨rfl, hb⟩; refine ⟨_, rfl, ?_⟩; have n0_ := Aside0.mk (blk_below (g := gb212) (o := .cells #[.string a0_0, .int .i64 a0_1, .int .i64 a0_2, .int .i64 a0_3, .int .i64 a0_4, .int .u32 a0_5] 29 (0, 0)) (by (with_reducible repeat (first | refine blk_drewN ?_ _ | refine blk_drew ?_ | refine blk_alloc ?_ _)); refine blk_far ?_ NB212_217.out _; (with_reducible repeat (first | refine blk_drewN ?_ _ | refine blk_drew ?_ | refine blk_alloc ?_ _)); refine blk_far ?_ NB212_217.out _; (with_reducible repeat (first | refine blk_drewN ?_ _ | refine blk_drew ?_ | refine blk_alloc ?_ _)); refine blk_far ?_ NB212_217.out _; (with_reducible repeat (first | refine blk_drewN ?_ _ | refine blk_drew ?_ | refine blk_alloc ?_ _)); refine blk_far ?_ NB212_217.out _; (with_reducible repeat (first | refine blk_drewN ?_ _ | refine blk_drew ?_ | refine blk_alloc ?_ _)); exact BK212.out) hb); have n1_ := Aside0.mk (blk_below (g := gb217) (o := .cells #[.int .u32 t213, .int .u32 t214, .int .u32 t215, .string t216] 60 (0, 0)) (by (with_reducible repeat (first | refine blk_drewN ?_ _ | refine blk_drew ?_ | refine blk_alloc ?_ _)); refine blk_put (cs := #[.int .u32 t213, .int .u32 t214, .int .u32 t215, .string (⟨#[]⟩ : ByteArray)]) ?_ 3 _ rfl; (with_reducible repeat (first | refine blk_drewN ?_ _ | refine blk_drew ?_ | refine blk_alloc ?_ _)); refine blk_put (cs := #[.int .u32 t213, .int .u32 t214, .int .u32 0, .string (⟨#[]⟩ : ByteArray)]) ?_ 2 _ rfl; (with_reducible repeat (first | refine blk_drewN ?_ _ | refine blk_drew ?_ | refine blk_alloc ?_ _)); refine blk_put (cs := #[.int .u32 t213, .int .u32 0, .int .u32 0, .string (⟨#[]⟩ : ByteArray)]) ?_ 1 _ rfl; (with_reducible repeat (first | refine blk_drewN ?_ _ | refine blk_drew ?_ | refine blk_alloc ?_ _)); refine blk_put (cs := #[.int .u32 0, .int .u32 0, .int .u32 0, .string (⟨#[]⟩ : ByteArray)]) ?_ 0 _ rfl; (with_reducible repeat (first | refine blk_drewN ?_ _ | refine blk_drew ?_ | refine blk_alloc ?_ _)); exact BK217.out) hb); have n2_ := Aside0.mk (below_step (by repeat (first | (with_reducible first | exact HB.out | apply below_alloc | apply pw_below_drewN | apply below_drew1 | refine below_set ?_ GE212.out | refine below_set ?_ GE217.out) | exact HB.out)) hb); clear BK212; clear BK217; clear HB; have BK212 := n0_; have BK217 := n1_; have HB := n2_; clear n0_ n1_ n2_; (try clear hb); (try clear hb2); (try clear hk); (try clear hi); have hcz25_0 : w24.cell? ⟨gb212, 0, none⟩ = some (.string a0_0) := (blk_cell BK212.out 0).trans rfl; have hcz25_1 : w24.cell? ⟨gb212, 1, none⟩ = some (.int .i64 a0_1) := (blk_cell BK212.out 1).trans rfl; have hcz25_2 : w24.cell? ⟨gb212, 2, none⟩ = some (.int .i64 a0_2) := (blk_cell BK212.out 2).trans rfl; have hcz25_3 : w24.cell? ⟨gb212, 3, none⟩ = some (.int .i64 a0_3) := (blk_cell BK212.out 3).trans rfl; have hcz25_4 : w24.cell? ⟨gb212, 4, none⟩ = some (.int .i64 a0_4) := (blk_cell BK212.out 4).trans rfl; have hcz25_5 : w24.cell? ⟨gb212, 5, none⟩ = some (.int .u32 a0_5) := (blk_cell BK212.out 5).trans rfl; have hfz25_0 := blk_frozen BK212.out 0; have hfz25_1 := blk_frozen BK212.out 1; have hfz25_2 := blk_frozen BK212.out 2; have hfz25_3 := blk_frozen BK212.out 3; have hfz25_4 := blk_frozen BK212.out 4; have hfz25_5 := blk_frozen BK212.out 5; have hcz26_0 : w24.cell? ⟨gb217, 0, none⟩ = some (.int .u32 t213) := (blk_cell BK217.out 0).trans rfl; have hcz26_1 : w24.cell? ⟨gb217, 1, none⟩ = some (.int .u32 t214) := (blk_cell BK217.out 1).trans rfl; have hcz26_2 : w24.cell? ⟨gb217, 2, none⟩ = some (.int .u32 t215) := (blk_cell BK217.out 2).trans rfl; have hcz26_3 : w24.cell? ⟨gb217, 3, none⟩ = some (.string t216) := (blk_cell BK217.out 3).trans rfl; have hfz26_0 := blk_frozen BK217.out 0; have hfz26_1 := blk_frozen BK217.out 1; have hfz26_2 := blk_frozen BK217.out 2; have hfz26_3 := blk_frozen BK217.out 3))
      go_ret2
      exact ⟨by first | rfl | (simp [errW_none, errW_some] <;> rfl) | (simp [*, errW_none, errW_some] <;> rfl), by repeat (first | (with_reducible first | exact HB.out | apply below_alloc | apply pw_below_drewN | apply below_drew1 | refine below_set ?_ GE212.out | refine below_set ?_ GE217.out) | exact HB.out)⟩
    rw [if_neg c16] at H
    have c16b0 : (t216.toList == ([99] : List UInt8)) = false := beq_eq_false_iff_ne.mpr c16
    have c16b1 : (t216.toList != ([99] : List UInt8)) = true := bne_iff_ne.mpr c16
    have HC27 := Aside0.mk H
    clear H
    go_enter Tryd.func22, Tryd.ntmps22
    go_upto_if 46 with (first | ((with_reducible refine gate_dst (N := 1) rfl ?_); refine box_event ?hg (N := 1) ?hd (cs := #[.string a0_0, .int .i64 a0_1, .int .i64 a0_2, .int .i64 a0_3, .int .i64 a0_4, .int .u32 a0_5]) (t := 29) ?hr ?_; (case hd => rfl); (case hg => rfl); (case hr => first | (go_simp; done) | (go_simp; rfl)); intro gb212 hg w28 hbox hb; have n0_ := Aside0.mk (below_step (by repeat (first | (with_reducible first | exact HB.out | apply below_alloc | apply pw_below_drewN | apply below_drew1) | exact HB.out)) hb); have n1_ := Aside0.mk (hbox); have n2_ := Aside0.mk ((by rw [hg]; exact (below_size (by repeat (first | (with_reducible first | exact HB.out | apply below_alloc | apply pw_below_drewN | apply below_drew1) | exact HB.out))) : w.heap.size ≤ gb212)); have n3_ := Aside0.mk ((by rw [hg]; exact (below_size (by repeat (first | (with_reducible first | exact HB.out | apply below_alloc | apply pw_below_drewN | apply below_drew1) | exact HB.out))) : w.heap.size ≤ gb212)); clear HB; have HB := n0_; have BK212 := n1_; have GW212 := n2_; have GE212 := n3_; clear n0_ n1_ n2_ n3_; clear hb hbox hg; have hcz29_0 : w28.cell? ⟨gb212, 0, none⟩ = some (.string a0_0) := (blk_cell BK212.out 0).trans rfl; have hcz29_1 : w28.cell? ⟨gb212, 1, none⟩ = some (.int .i64 a0_1) := (blk_cell BK212.out 1).trans rfl; have hcz29_2 : w28.cell? ⟨gb212, 2, none⟩ = some (.int .i64 a0_2) := (blk_cell BK212.out 2).trans rfl; have hcz29_3 : w28.cell? ⟨gb212, 3, none⟩ = some (.int .i64 a0_3) := (blk_cell BK212.out 3).trans rfl; have hcz29_4 : w28.cell? ⟨gb212, 4, none⟩ = some (.int .i64 a0_4) := (blk_cell BK212.out 4).trans rfl; have hcz29_5 : w28.cell? ⟨gb212, 5, none⟩ = some (.int .u32 a0_5) := (blk_cell BK212.out 5).trans rfl; have hfz29_0 := blk_frozen BK212.out 0; have hfz29_1 := blk_frozen BK212.out 1; have hfz29_2 := blk_frozen BK212.out 2; have hfz29_3 := blk_frozen BK212.out 3; have hfz29_4 := blk_frozen BK212.out 4; have hfz29_5 := blk_frozen BK212.out 5) | ((with_reducible refine gate_callee (f := 41) rfl ?_); refine goesL_ (some 11) rfl rfl Tryd.func41 (by kernel_rfl) rfl #[.string a0_0] rfl (by (try simp only [List.map_toArray, List.map_cons, List.map_nil]); first | done | rfl | (simp only [List.length_drop, List.length_take]; rfl)) ?_; (with_reducible refine (ferryref07_special.calls a0_0 t213 t214 t215 t216 _ A2.out).mono ?_); rintro e w30 ⟨rfl, hb⟩; refine ⟨_, rfl, ?_⟩; have n0_ := Aside0.mk (blk_below (g := gb212) (o := .cells #[.string a0_0, .int .i64 a0_1, .int .i64 a0_2, .int .i64 a0_3, .int .i64 a0_4, .int .u32 a0_5] 29 (0, 0)) (by (with_reducible repeat (first | refine blk_drewN ?_ _ | refine blk_drew ?_ | refine blk_alloc ?_ _)); exact BK212.out) hb); have n1_ := Aside0.mk (below_step (by repeat (first | (with_reducible first | exact HB.out | apply below_alloc | apply pw_below_drewN | apply below_drew1 | refine below_set ?_ GE212.out) | exact HB.out)) hb); clear BK212; clear HB; have BK212 := n0_; have HB := n1_; clear n0_ n1_; (try clear hb); (try clear hb2); (try clear hk); (try clear hi)) | ((with_reducible refine gate_dst (N := 4) rfl ?_); refine box_event ?hg (N := 4) ?hd (cs := #[.int .u32 0, .int .u32 0, .int .u32 0, .string (⟨#[]⟩ : ByteArray)]) (t := 60) ?hr ?_; (case hd => rfl); (case hg => rfl); (case hr => first | (go_simp; done) | (go_simp; rfl)); intro gb217 hg w31 hbox hb; have n0_ := Aside0.mk (blk_below (g := gb212) (o := .cells #[.string a0_0, .int .i64 a0_1, .int .i64 a0_2, .int .i64 a0_3, .int .i64 a0_4, .int .u32 a0_5] 29 (0, 0)) (by (with_reducible repeat (first | refine blk_drewN ?_ _ | refine blk_drew ?_ | refine blk_alloc ?_ _)); exact BK212.out) hb); have n1_ := Aside0.mk (below_step (by repeat (first | (with_reducible first | exact HB.out | apply below_alloc | apply pw_below_drewN | apply below_drew1 | refine below_set ?_ GE212.out) | exact HB.out)) hb); have n2_ := Aside0.mk (hbox); have n3_ := Aside0.mk ((by rw [hg]; exact (below_size (by repeat (first | (with_reducible first | exact HB.out | apply below_alloc | apply pw_below_drewN | apply below_drew1 | refine below_set ?_ GE212.out) | exact HB.out))) : w.heap.size ≤ gb217)); have n4_ := Aside0.mk ((by rw [hg]; exact (below_size (by repeat (first | (with_reducible first | exact HB.out | apply below_alloc | apply pw_below_drewN | apply below_drew1 | refine below_set ?_ GE212.out) | exact HB.out))) : w.heap.size ≤ gb217)); have n5_ := Aside0.mk ((by rw [hg]; exact Nat.ne_of_lt (blk_lt (g := gb212) (o := .cells #[.string a0_0, .int .i64 a0_1, .int .i64 a0_2, .int .i64 a0_3, .int .i64 a0_4, .int .u32 a0_5] 29 (0, 0)) (by (with_reducible repeat (first | refine blk_drewN ?_ _ | refine blk_drew ?_ | refine blk_alloc ?_ _)); exact BK212.out)) : gb212 ≠ gb217)); have n6_ := Aside0.mk ((by rw [hg]; exact Nat.ne_of_gt (blk_lt (g := gb212) (o := .cells #[.string a0_0, .int .i64 a0_1, .int .i64 a0_2, .int .i64 a0_3, .int .i64 a0_4, .int .u32 a0_5] 29 (0, 0)) (by (with_reducible repeat (first | refine blk_drewN ?_ _ | refine blk_drew ?_ | refine blk_alloc ?_ _)); exact BK212.out)) : gb217 ≠ gb212)); clear BK212; clear HB; have BK212 := n0_; have HB := n1_; have BK217 := n2_; have GW217 := n3_; have GE217 := n4_; have NB212_217 := n5_; have NB217_212 := n6_; clear n0_ n1_ n2_ n3_ n4_ n5_ n6_; clear hb hbox hg; have hnb32 := NB217_212.out; have hnc32 := NB212_217.out; have hcz33_0 : w31.cell? ⟨gb217, 0, none⟩ = some (.int .u32 0) := (blk_cell BK217.out 0).trans rfl; have hcz33_1 : w31.cell? ⟨gb217, 1, none⟩ = some (.int .u32 0) := (blk_cell BK217.out 1).trans rfl; have hcz33_2 : w31.cell? ⟨gb217, 2, none⟩ = some (.int .u32 0) := (blk_cell BK217.out 2).trans rfl; have hcz33_3 : w31.cell? ⟨gb217, 3, none⟩ = some (.string (⟨#[]⟩ : ByteArray)) := (blk_cell BK217.out 3).trans rfl; have hfz33_0 := blk_frozen BK217.out 0; have hfz33_1 := blk_frozen BK217.out 1; have hfz33_2 := blk_frozen BK217.out 2; have hfz33_3 := blk_frozen BK217.out 3; have hcz34_0 : w31.cell? ⟨gb212, 0, none⟩ = some (.string a0_0) := (blk_cell BK212.out 0).trans rfl; have hcz34_1 : w31.cell? ⟨gb212, 1, none⟩ = some (.int .i64 a0_1) := (blk_cell BK212.out 1).trans rfl; have hcz34_2 : w31.cell? ⟨gb212, 2, none⟩ = some (.int .i64 a0_2) := (blk_cell BK212.out 2).trans rfl; have hcz34_3 : w31.cell? ⟨gb212, 3, none⟩ = some (.int .i64 a0_3) := (blk_cell BK212.out 3).trans rfl; have hcz34_4 : w31.cell? ⟨gb212, 4, none⟩ = some (.int .i64 a0_4) := (blk_cell BK212.out 4).trans rfl; have hcz34_5 : w31.cell? ⟨gb212, 5, none⟩ = some (.int .u32 a0_5) := (blk_cell BK212.out 5).trans rfl; have hfz34_0 := blk_frozen BK212.out 0; have hfz34_1 := blk_frozen BK212.out 1; have hfz34_2 := blk_frozen BK212.out 2; have hfz34_3 := blk_frozen BK212.out 3; have hfz34_4 := blk_frozen BK212.out 4; have hfz34_5 := blk_frozen BK212.out 5) | ((with_reducible refine gate_callee (f := 42) rfl ?_); refine goesL_ (some 14) rfl rfl Tryd.func42 (by kernel_rfl) rfl #[.agg #[.string a0_0, .int .i64 a0_1, .int .i64 a0_2, .int .i64 a0_3, .int .i64 a0_4, .int .u32 a0_5], .agg #[.int .u32 t213, .int .u32 t214, .int .u32 t215, .string t216]] rfl (by (try simp only [List.map_toArray, List.map_cons, List.map_nil]); first | done | rfl | (simp only [List.length_drop, List.length_take]; rfl)) ?_; (with_reducible refine (ferryref07_fit.calls a0_0 a0_1 a0_2 a0_3 a0_4 a0_5 t213 t214 t215 t216 true _ A3.out).mono ?_); rintro e w35 ⟨rfl, hb⟩; refine ⟨_, rfl, ?_⟩; have n0_ := Aside0.mk (blk_below (g := gb212) (o := .cells #[.string a0_0, .int .i64 a0_1, .int .i64 a0_2, .int .i64 a0_3, .int .i64 a0_4, .int .u32 a0_5] 29 (0, 0)) (by (with_reducible repeat (first | refine blk_drewN ?_ _ | refine blk_drew ?_ | refine blk_alloc ?_ _)); refine blk_far ?_ NB212_217.out _; (with_reducible repeat (first | refine blk_drewN ?_ _ | refine blk_drew ?_ | refine blk_alloc ?_ _)); refine blk_far ?_ NB212_217.out _; (with_reducible repeat (first | refine blk_drewN ?_ _ | refine blk_drew ?_ | refine blk_alloc ?_ _)); refine blk_far ?_ NB212_217.out _; (with_reducible repeat (first | refine blk_drewN ?_ _ | refine blk_drew ?_ | refine blk_alloc ?_ _)); refine blk_far ?_ NB212_217.out _; (with_reducible repeat (first | refine blk_drewN ?_ _ | refine blk_drew ?_ | refine blk_alloc ?_ _)); exact BK212.out) hb); have n1_ := Aside0.mk (blk_below (g := gb217) (o := .cells #[.int .u32 t213, .int .u32 t214, .int .u32 t215, .string t216] 60 (0, 0)) (by (with_reducible repeat (first | refine blk_drewN ?_ _ | refine blk_drew ?_ | refine blk_alloc ?_ _)); refine blk_put (cs := #[.int .u32 t213, .int .u32 t214, .int .u32 t215, .string (⟨#[]⟩ : ByteArray)]) ?_ 3 _ rfl; (with_reducible repeat (first | refine blk_drewN ?_ _ | refine blk_drew ?_ | refine blk_alloc ?_ _)); refine blk_put (cs := #[.int .u32 t213, .int .u32 t214, .int .u32 0, .string (⟨#[]⟩ : ByteArray)]) ?_ 2 _ rfl; (with_reducible repeat (first | refine blk_drewN ?_ _ | refine blk_drew ?_ | refine blk_alloc ?_ _)); refine blk_put (cs := #[.int .u32 t213, .int .u32 0, .int .u32 0, .string (⟨#[]⟩ : ByteArray)]) ?_ 1 _ rfl; (with_reducible repeat (first | refine blk_drewN ?_ _ | refine blk_drew ?_ | refine blk_alloc ?_ _)); refine blk_put (cs := #[.int .u32 0, .int .u32 0, .int .u32 0, .string (⟨#[]⟩ : ByteArray)]) ?_ 0 _ rfl; (with_reducible repeat (first | refine blk_drewN ?_ _ | refine blk_drew ?_ | refine blk_alloc ?_ _)); exact BK217.out) hb); have n2_ := Aside0.mk (below_step (by repeat (first | (with_reducible first | exact HB.out | apply below_alloc | apply pw_below_drewN | apply below_drew1 | refine below_set ?_ GE212.out | refine below_set ?_ GE217.out) | exact HB.out)) hb); clear BK212; clear BK217; clear HB; have BK212 := n0_; have BK217 := n1_; have HB := n2_; clear n0_ n1_ n2_; (try clear hb); (try clear hb2); (try clear hk); (try clear hi); have hcz36_0 : w35.cell? ⟨gb212, 0, none⟩ = some (.string a0_0) := (blk_cell BK212.out 0).trans rfl; have hcz36_1 : w35.cell? ⟨gb212, 1, none⟩ = some (.int .i64 a0_1) := (blk_cell BK212.out 1).trans rfl; have hcz36_2 : w35.cell? ⟨gb212, 2, none⟩ = some (.int .i64 a0_2) := (blk_cell BK212.out 2).trans rfl; have hcz36_3 : w35.cell? ⟨gb212, 3, none⟩ = some (.int .i64 a0_3) := (blk_cell BK212.out 3).trans rfl; have hcz36_4 : w35.cell? ⟨gb212, 4, none⟩ = some (.int .i64 a0_4) := (blk_cell BK212.out 4).trans rfl; have hcz36_5 : w35.cell? ⟨gb212, 5, none⟩ = some (.int .u32 a0_5) := (blk_cell BK212.out 5).trans rfl; have hfz36_0 := blk_frozen BK212.out 0; have hfz36_1 := blk_frozen BK212.out 1; have hfz36_2 := blk_frozen BK212.out 2; have hfz36_3 := blk_frozen BK212.out 3; have hfz36_4 := blk_frozen BK212.out 4; have hfz36_5 := blk_frozen BK212.out 5; have hcz37_0 : w35.cell? ⟨gb217, 0, none⟩ = some (.int .u32 t213) := (blk_cell BK217.out 0).trans rfl; have hcz37_1 : w35.cell? ⟨gb217, 1, none⟩ = some (.int .u32 t214) := (blk_cell BK217.out 1).trans rfl; have hcz37_2 : w35.cell? ⟨gb217, 2, none⟩ = some (.int .u32 t215) := (blk_cell BK217.out 2).trans rfl; have hcz37_3 : w35.cell? ⟨gb217, 3, none⟩ = some (.string t216) := (blk_cell BK217.out 3).trans rfl; have hfz37_0 := blk_frozen BK217.out 0; have hfz37_1 := blk_frozen BK217.out 1; have hfz37_2 := blk_frozen BK217.out 2; have hfz37_3 := blk_frozen BK217.out 3))
    (try simp only [Act.put, List.setIfInBounds_toArray, List.set_cons_zero, List.set_cons_succ])
    go_cut [46] (fun v46 wc => ∃ (kq : Nat) (x46_26 : Bool), v46 = .bool x46_26 ∧ Aside0 (ferryref07_Encode.j0 kq ((a0_1) % 4294967296) ((a0_2) % 4294967296) ((a0_4) % 4294967296) ((t213 * 67108864) % 4294967296) t216 x46_26 a0_0 a0_1 a0_2 a0_3 a0_4 a0_5 t213 t214 t215 t216 = some (r1, r2)) ∧ Aside0 (kq ≤ k) ∧ Aside0 (wc.heap[gb212]? = some (.cells #[.string a0_0, .int .i64 a0_1, .int .i64 a0_2, .int .i64 a0_3, .int .i64 a0_4, .int .u32 a0_5] 29 (0, 0))) ∧ Aside0 (wc.heap[gb217]? = some (.cells #[.int .u32 t213, .int .u32 t214, .int .u32 t215, .string t216] 60 (0, 0))) ∧ Aside0 (Below w.heap.size w wc))
    case first =>
      have H := HC27.out
      clear HC27
      by_cases c38 : t216.toList = ([115, 111] : List UInt8)
      · rw [if_pos c38] at H
        have c38b0 : (t216.toList == ([115, 111] : List UInt8)) = true := beq_iff_eq.mpr c38
        have c38b1 : (t216.toList != ([115, 111] : List UInt8)) = false := bne_eq_false_iff_eq.mpr c38
        clear c38
        (first | rw [c38b0] | (simp only [i64_w, i32_w]; rw [c38b0]) | skip)
        have H' := Aside0.mk H
        clear H
        go_wp2
        go_meet
        case rel => exact ⟨_, ((t216.toList == ([115, 111] : List UInt8))), (by first | rfl | (simp; done) | (simp [*]; done)), H', ⟨by first | omega | exact Nat.le_refl _⟩, ⟨by (with_reducible repeat (first | refine blk_drewN ?_ _ | refine blk_drew ?_ | refine blk_alloc ?_ _)); exact BK212.out⟩, ⟨by (with_reducible repeat (first | refine blk_drewN ?_ _ | refine blk_drew ?_ | refine blk_alloc ?_ _)); exact BK217.out⟩, ⟨by repeat (first | (with_reducible first | exact HB.out | apply below_alloc | apply pw_below_drewN | apply below_drew1 | refine below_set ?_ GE212.out | refine below_set ?_ GE217.out) | exact HB.out)⟩⟩
      rw [if_neg c38] at H
      have c38b0 : (t216.toList == ([115, 111] : List UInt8)) = false := beq_eq_false_iff_ne.mpr c38
      have c38b1 : (t216.toList != ([115, 111] : List UInt8)) = true := bne_iff_ne.mpr c38
      (first | rw [c38b0] | (simp only [i64_w, i32_w]; rw [c38b0]) | skip)
      by_cases c39 : t216.toList = ([115, 116, 111] : List UInt8)
      · rw [if_pos c39] at H
        have c39b0 : (t216.toList == ([115, 116, 111] : List UInt8)) = true := beq_iff_eq.mpr c39
        have c39b1 : (t216.toList != ([115, 116, 111] : List UInt8)) = false := bne_eq_false_iff_eq.mpr c39
        clear c39
        have H' := Aside0.mk H
        clear H
        go_wp2
        go_meet
        case rel => exact ⟨_, ((t216.toList == ([115, 116, 111] : List UInt8))), (by first | rfl | (simp; done) | (simp [*]; done)), H', ⟨by first | omega | exact Nat.le_refl _⟩, ⟨by (with_reducible repeat (first | refine blk_drewN ?_ _ | refine blk_drew ?_ | refine blk_alloc ?_ _)); exact BK212.out⟩, ⟨by (with_reducible repeat (first | refine blk_drewN ?_ _ | refine blk_drew ?_ | refine blk_alloc ?_ _)); exact BK217.out⟩, ⟨by repeat (first | (with_reducible first | exact HB.out | apply below_alloc | apply pw_below_drewN | apply below_drew1 | refine below_set ?_ GE212.out | refine below_set ?_ GE217.out) | exact HB.out)⟩⟩
      rw [if_neg c39] at H
      have c39b0 : (t216.toList == ([115, 116, 111] : List UInt8)) = false := beq_eq_false_iff_ne.mpr c39
      have c39b1 : (t216.toList != ([115, 116, 111] : List UInt8)) = true := bne_iff_ne.mpr c39
      by_cases c40 : t216.toList = ([116, 115, 105] : List UInt8)
      · rw [if_pos c40] at H
        have c40b0 : (t216.toList == ([116, 115, 105] : List UInt8)) = true := beq_iff_eq.mpr c40
        have c40b1 : (t216.toList != ([116, 115, 105] : List UInt8)) = false := bne_eq_false_iff_eq.mpr c40
        clear c40
        have H' := Aside0.mk H
        clear H
        go_wp2
        go_meet
        case rel => exact ⟨_, ((t216.toList == ([116, 115, 105] : List UInt8))), (by first | rfl | (simp; done) | (simp [*]; done)), H', ⟨by first | omega | exact Nat.le_refl _⟩, ⟨by (with_reducible repeat (first | refine blk_drewN ?_ _ | refine blk_drew ?_ | refine blk_alloc ?_ _)); exact BK212.out⟩, ⟨by (with_reducible repeat (first | refine blk_drewN ?_ _ | refine blk_drew ?_ | refine blk_alloc ?_ _)); exact BK217.out⟩, ⟨by repeat (first | (with_reducible first | exact HB.out | apply below_alloc | apply pw_below_drewN | apply below_drew1 | refine below_set ?_ GE212.out | refine below_set ?_ GE217.out) | exact HB.out)⟩⟩
      rw [if_neg c40] at H
      have c40b0 : (t216.toList == ([116, 115, 105] : List UInt8)) = false := beq_eq_false_iff_ne.mpr c40
      have c40b1 : (t216.toList != ([116, 115, 105] : List UInt8)) = true := bne_iff_ne.mpr c40
      by_cases c41 : t216.toList = ([116, 105] : List UInt8)
      · rw [if_pos c41] at H
        have c41b0 : (t216.toList == ([116, 105] : List UInt8)) = true := beq_iff_eq.mpr c41
        have c41b1 : (t216.toList != ([116, 105] : List UInt8)) = false := bne_eq_false_iff_eq.mpr c41
        clear c41
        have H' := Aside0.mk H
        clear H
        go_wp2
        go_meet
        case rel => exact ⟨_, ((t216.toList == ([116, 105] : List UInt8))), (by first | rfl | (simp; done) | (simp [*]; done)), H', ⟨by first | omega | exact Nat.le_refl _⟩, ⟨by (with_reducible repeat (first | refine blk_drewN ?_ _ | refine blk_drew ?_ | refine blk_alloc ?_ _)); exact BK212.out⟩, ⟨by (with_reducible repeat (first | refine blk_drewN ?_ _ | refine blk_drew ?_ | refine blk_alloc ?_ _)); exact BK217.out⟩, ⟨by repeat (first | (with_reducible first | exact HB.out | apply below_alloc | apply pw_below_drewN | apply below_drew1 | refine below_set ?_ GE212.out | refine below_set ?_ GE217.out) | exact HB.out)⟩⟩
      rw [if_neg c41] at H
      have c41b0 : (t216.toList == ([116, 105] : List UInt8)) = false := beq_eq_false_iff_ne.mpr c41
      have c41b1 : (t216.toList != ([116, 105] : List UInt8)) = true := bne_iff_ne.mpr c41
      have H' := Aside0.mk H
      clear H
      go_wp2
      go_meet
      case rel => exact ⟨_, ((t216.toList == ([116, 109] : List UInt8))), (by first | rfl | (simp; done) | (simp [*]; done)), H', ⟨by first | omega | exact Nat.le_refl _⟩, ⟨by (with_reducible repeat (first | refine blk_drewN ?_ _ | refine blk_drew ?_ | refine blk_alloc ?_ _)); exact BK212.out⟩, ⟨by (with_reducible repeat (first | refine blk_drewN ?_ _ | refine blk_drew ?_ | refine blk_alloc ?_ _)); exact BK217.out⟩, ⟨by repeat (first | (with_reducible first | exact HB.out | apply below_alloc | apply pw_below_drewN | apply below_drew1 | refine below_set ?_ GE212.out | refine below_set ?_ GE217.out) | exact HB.out)⟩⟩
    case rest =>
      clear HC27
      try clear c1
      try clear c2
      try clear p2
      try clear c3
      try clear c4
      try clear c5
      try clear c5b0
      try clear c5b1
      try clear c10
      try clear c16
      try clear c16b0
      try clear c16b1
      try clear c21
      try clear c22
      try clear c32
      try clear c38
      try clear c38b0
      try clear c38b1
      try clear c39
      try clear c39b0
      try clear c39b1
      try clear c40
      try clear c40b0
      try clear c40b1
      try clear c41
      try clear c41b0
      try clear c41b1
      try clear hcz11_0
      try clear hcz11_1
      try clear hcz11_2
      try clear hcz11_3
      try clear hcz12_0
      try clear hcz12_1
      try clear hcz12_2
      try clear hcz12_3
      try clear hcz12_4
      try clear hcz12_5
      try clear hcz14_0
      try clear hcz14_1
      try clear hcz14_2
      try clear hcz14_3
      try clear hcz14_4
      try clear hcz14_5
      try clear hcz15_0
      try clear hcz15_1
      try clear hcz15_2
      try clear hcz15_3
      try clear hcz18_0
      try clear hcz18_1
      try clear hcz18_2
      try clear hcz18_3
      try clear hcz18_4
      try clear hcz18_5
      try clear hcz22_0
      try clear hcz22_1
      try clear hcz22_2
      try clear hcz22_3
      try clear hcz23_0
      try clear hcz23_1
      try clear hcz23_2
      try clear hcz23_3
      try clear hcz23_4
      try clear hcz23_5
      try clear hcz25_0
      try clear hcz25_1
      try clear hcz25_2
      try clear hcz25_3
      try clear hcz25_4
      try clear hcz25_5
      try clear hcz26_0
      try clear hcz26_1
      try clear hcz26_2
      try clear hcz26_3
      try clear hcz29_0
      try clear hcz29_1
      try clear hcz29_2
      try clear hcz29_3
      try clear hcz29_4
      try clear hcz29_5
      try clear hcz33_0
      try clear hcz33_1
      try clear hcz33_2
      try clear hcz33_3
      try clear hcz34_0
      try clear hcz34_1
      try clear hcz34_2
      try clear hcz34_3
      try clear hcz34_4
      try clear hcz34_5
      try clear hcz36_0
      try clear hcz36_1
      try clear hcz36_2
      try clear hcz36_3
      try clear hcz36_4
      try clear hcz36_5
      try clear hcz37_0
      try clear hcz37_1
      try clear hcz37_2
      try clear hcz37_3
      try clear hcz7_0
      try clear hcz7_1
      try clear hcz7_2
      try clear hcz7_3
      try clear hcz7_4
      try clear hcz7_5
      try clear hfz11_0
      try clear hfz11_1
      try clear hfz11_2
      try clear hfz11_3
      try clear hfz12_0
      try clear hfz12_1
      try clear hfz12_2
      try clear hfz12_3
      try clear hfz12_4
      try clear hfz12_5
      try clear hfz14_0
      try clear hfz14_1
      try clear hfz14_2
      try clear hfz14_3
      try clear hfz14_4
      try clear hfz14_5
      try clear hfz15_0
      try clear hfz15_1
      try clear hfz15_2
      try clear hfz15_3
      try clear hfz18_0
      try clear hfz18_1
      try clear hfz18_2
      try clear hfz18_3
      try clear hfz18_4
      try clear hfz18_5
      try clear hfz22_0
      try clear hfz22_1
      try clear hfz22_2
      try clear hfz22_3
      try clear hfz23_0
      try clear hfz23_1
      try clear hfz23_2
      try clear hfz23_3
      try clear hfz23_4
      try clear hfz23_5
      try clear hfz25_0
      try clear hfz25_1
      try clear hfz25_2
      try clear hfz25_3
      try clear hfz25_4
      try clear hfz25_5
      try clear hfz26_0
      try clear hfz26_1
      try clear hfz26_2
      try clear hfz26_3
      try clear hfz29_0
      try clear hfz29_1
      try clear hfz29_2
      try clear hfz29_3
      try clear hfz29_4
      try clear hfz29_5
      try clear hfz33_0
      try clear hfz33_1
      try clear hfz33_2
      try clear hfz33_3
      try clear hfz34_0
      try clear hfz34_1
      try clear hfz34_2
      try clear hfz34_3
      try clear hfz34_4
      try clear hfz34_5
      try clear hfz36_0
      try clear hfz36_1
      try clear hfz36_2
      try clear hfz36_3
      try clear hfz36_4
      try clear hfz36_5
      try clear hfz37_0
      try clear hfz37_1
      try clear hfz37_2
      try clear hfz37_3
      try clear hfz7_0
      try clear hfz7_1
      try clear hfz7_2
      try clear hfz7_3
      try clear hfz7_4
      try clear hfz7_5
      obtain ⟨kq, x46_26, rfl, HA, HJ26, BK212, BK217, HB⟩ := hcut
      cases kq with
      | zero => exact absurd HA.out (by simp [ferryref07_Encode.j0])
      | succ kj26 =>
        have H := HA.out
        clear HA
        simp only [ferryref07_Encode.j0] at H
        by_cases c42 : x46_26 = true
        · subst c42
          have H1 : (if t213 = 1 then (some (Go.bits .or .u32 (Go.bits .or .u32 (Go.bits .or .u32 ((t213 * 67108864) % 4294967296) ((((a0_1) % 4294967296) * 2097152) % 4294967296)) ((t214 * 65536) % 4294967296)) a0_5, true)) else (some (Go.bits .or .u32 (Go.bits .or .u32 (Go.bits .or .u32 ((t213 * 67108864) % 4294967296) ((((a0_1) % 4294967296) * 2097152) % 4294967296)) ((((a0_2) % 4294967296) * 65536) % 4294967296)) a0_5, true))) = some (r1, r2) := by rw [if_pos rfl] at H; exact H
          clear H
          have H := H1
          clear H1
          by_cases c43 : t213 = 1
          · rw [if_pos c43] at H
            have c43b0 : (t213 == 1) = true := beq_iff_eq.mpr c43
            have c43b1 : (t213 != 1) = false := bne_eq_false_iff_eq.mpr c43
            clear c43
            simp only [Option.some.injEq, Prod.mk.injEq] at H
            obtain ⟨rfl, rfl⟩ := H
            have hnb44 := NB217_212.out
            have hnc44 := NB212_217.out
            have hcz45_0 : wc.cell? ⟨gb217, 0, none⟩ = some (.int .u32 t213) := (blk_cell BK217.out 0).trans rfl
            have hcz45_1 : wc.cell? ⟨gb217, 1, none⟩ = some (.int .u32 t214) := (blk_cell BK217.out 1).trans rfl
            have hcz45_2 : wc.cell? ⟨gb217, 2, none⟩ = some (.int .u32 t215) := (blk_cell BK217.out 2).trans rfl
            have hcz45_3 : wc.cell? ⟨gb217, 3, none⟩ = some (.string t216) := (blk_cell BK217.out 3).trans rfl
            have hfz45_0 := blk_frozen BK217.out 0
            have hfz45_1 := blk_frozen BK217.out 1
            have hfz45_2 := blk_frozen BK217.out 2
            have hfz45_3 := blk_frozen BK217.out 3
            have hcz46_0 : wc.cell? ⟨gb212, 0, none⟩ = some (.string a0_0) := (blk_cell BK212.out 0).trans rfl
            have hcz46_1 : wc.cell? ⟨gb212, 1, none⟩ = some (.int .i64 a0_1) := (blk_cell BK212.out 1).trans rfl
            have hcz46_2 : wc.cell? ⟨gb212, 2, none⟩ = some (.int .i64 a0_2) := (blk_cell BK212.out 2).trans rfl
            have hcz46_3 : wc.cell? ⟨gb212, 3, none⟩ = some (.int .i64 a0_3) := (blk_cell BK212.out 3).trans rfl
            have hcz46_4 : wc.cell? ⟨gb212, 4, none⟩ = some (.int .i64 a0_4) := (blk_cell BK212.out 4).trans rfl
            have hcz46_5 : wc.cell? ⟨gb212, 5, none⟩ = some (.int .u32 a0_5) := (blk_cell BK212.out 5).trans rfl
            have hfz46_0 := blk_frozen BK212.out 0
            have hfz46_1 := blk_frozen BK212.out 1
            have hfz46_2 := blk_frozen BK212.out 2
            have hfz46_3 := blk_frozen BK212.out 3
            have hfz46_4 := blk_frozen BK212.out 4
            have hfz46_5 := blk_frozen BK212.out 5
            go_wp2
            go_ret2
            exact ⟨by first | rfl | (simp [errW_none, errW_some] <;> rfl) | (simp [*, errW_none, errW_some] <;> rfl), by repeat (first | (with_reducible first | exact HB.out | apply below_alloc | apply pw_below_drewN | apply below_drew1 | refine below_set ?_ GE212.out | refine below_set ?_ GE217.out) | exact HB.out)⟩
          rw [if_neg c43] at H
          have c43b0 : (t213 == 1) = false := beq_eq_false_iff_ne.mpr c43
          have c43b1 : (t213 != 1) = true := bne_iff_ne.mpr c43
          simp only [Option.some.injEq, Prod.mk.injEq] at H
          obtain ⟨rfl, rfl⟩ := H
          have hnb47 := NB217_212.out
          have hnc47 := NB212_217.out
          have hcz48_0 : wc.cell? ⟨gb217, 0, none⟩ = some (.int .u32 t213) := (blk_cell BK217.out 0).trans rfl
          have hcz48_1 : wc.cell? ⟨gb217, 1, none⟩ = some (.int .u32 t214) := (blk_cell BK217.out 1).trans rfl
          have hcz48_2 : wc.cell? ⟨gb217, 2, none⟩ = some (.int .u32 t215) := (blk_cell BK217.out 2).trans rfl
          have hcz48_3 : wc.cell? ⟨gb217, 3, none⟩ = some (.string t216) := (blk_cell BK217.out 3).trans rfl
          have hfz48_0 := blk_frozen BK217.out 0
          have hfz48_1 := blk_frozen BK217.out 1
          have hfz48_2 := blk_frozen BK217.out 2
          have hfz48_3 := blk_frozen BK217.out 3
          have hcz49_0 : wc.cell? ⟨gb212, 0, none⟩ = some (.string a0_0) := (blk_cell BK212.out 0).trans rfl
          have hcz49_1 : wc.cell? ⟨gb212, 1, none⟩ = some (.int .i64 a0_1) := (blk_cell BK212.out 1).trans rfl
          have hcz49_2 : wc.cell? ⟨gb212, 2, none⟩ = some (.int .i64 a0_2) := (blk_cell BK212.out 2).trans rfl
          have hcz49_3 : wc.cell? ⟨gb212, 3, none⟩ = some (.int .i64 a0_3) := (blk_cell BK212.out 3).trans rfl
          have hcz49_4 : wc.cell? ⟨gb212, 4, none⟩ = some (.int .i64 a0_4) := (blk_cell BK212.out 4).trans rfl
          have hcz49_5 : wc.cell? ⟨gb212, 5, none⟩ = some (.int .u32 a0_5) := (blk_cell BK212.out 5).trans rfl
          have hfz49_0 := blk_frozen BK212.out 0
          have hfz49_1 := blk_frozen BK212.out 1
          have hfz49_2 := blk_frozen BK212.out 2
          have hfz49_3 := blk_frozen BK212.out 3
          have hfz49_4 := blk_frozen BK212.out 4
          have hfz49_5 := blk_frozen BK212.out 5
          go_wp2
          go_ret2
          exact ⟨by first | rfl | (simp [errW_none, errW_some] <;> rfl) | (simp [*, errW_none, errW_some] <;> rfl), by repeat (first | (with_reducible first | exact HB.out | apply below_alloc | apply pw_below_drewN | apply below_drew1 | refine below_set ?_ GE212.out | refine below_set ?_ GE217.out) | exact HB.out)⟩
        replace c42 := Bool.eq_false_iff.mpr c42
        subst c42
        have H1 : (if t216.toList = ([100, 115, 100] : List UInt8) then (some (Go.bits .or .u32 (Go.bits .or .u32 (Go.bits .or .u32 (Go.bits .or .u32 (Go.bits .or .u32 ((t213 * 67108864) % 4294967296) ((((a0_1) % 4294967296) * 2097152) % 4294967296)) ((((a0_3) % 4294967296) * 65536) % 4294967296)) ((((a0_3) % 4294967296) * 2048) % 4294967296)) ((((a0_4) % 4294967296) * 64) % 4294967296)) t214, true)) else (if t216.toList = ([100, 116, 114] : List UInt8) then (some (Go.bits .or .u32 (Go.bits .or .u32 (Go.bits .or .u32 (Go.bits .or .u32 (Go.bits .or .u32 ((t213 * 67108864) % 4294967296) (1 * 2097152)) ((((a0_2) % 4294967296) * 65536) % 4294967296)) ((((a0_3) % 4294967296) * 2048) % 4294967296)) ((((a0_4) % 4294967296) * 64) % 4294967296)) t214, true)) else (if t216.toList = ([100, 116, 118] : List UInt8) then (some (Go.bits .or .u32 (Go.bits .or .u32 (Go.bits .or .u32 (Go.bits .or .u32 (Go.bits .or .u32 ((t213 * 67108864) % 4294967296) ((((a0_1) % 4294967296) * 2097152) % 4294967296)) ((((a0_2) % 4294967296) * 65536) % 4294967296)) ((((a0_3) % 4294967296) * 2048) % 4294967296)) (1 * 64)) t214, true)) else (if t216.toList = ([100, 116] : List UInt8) then (some (Go.bits .or .u32 (Go.bits .or .u32 (Go.bits .or .u32 (Go.bits .or .u32 (Go.bits .or .u32 ((t213 * 67108864) % 4294967296) ((((a0_1) % 4294967296) * 2097152) % 4294967296)) ((((a0_2) % 4294967296) * 65536) % 4294967296)) ((((a0_3) % 4294967296) * 2048) % 4294967296)) ((t215 * 64) % 4294967296)) t214, true)) else (some (Go.bits .or .u32 (Go.bits .or .u32 (Go.bits .or .u32 (Go.bits .or .u32 (Go.bits .or .u32 ((t213 * 67108864) % 4294967296) ((((a0_1) % 4294967296) * 2097152) % 4294967296)) ((((a0_2) % 4294967296) * 65536) % 4294967296)) ((((a0_3) % 4294967296) * 2048) % 4294967296)) ((((a0_4) % 4294967296) * 64) % 4294967296)) t214, true)))))) = some (r1, r2) := by rw [if_neg (show ¬ (false = true) by decide)] at H; exact H
        clear H
        have H := H1
        clear H1
        by_cases c50 : t216.toList = ([100, 115, 100] : List UInt8)
        · rw [if_pos c50] at H
          have c50b0 : (t216.toList == ([100, 115, 100] : List UInt8)) = true := beq_iff_eq.mpr c50
          have c50b1 : (t216.toList != ([100, 115, 100] : List UInt8)) = false := bne_eq_false_iff_eq.mpr c50
          clear c50
          simp only [Option.some.injEq, Prod.mk.injEq] at H
          obtain ⟨rfl, rfl⟩ := H
          have hnb51 := NB212_217.out
          have hnc51 := NB217_212.out
          have hcz52_0 : wc.cell? ⟨gb212, 0, none⟩ = some (.string a0_0) := (blk_cell BK212.out 0).trans rfl
          have hcz52_1 : wc.cell? ⟨gb212, 1, none⟩ = some (.int .i64 a0_1) := (blk_cell BK212.out 1).trans rfl
          have hcz52_2 : wc.cell? ⟨gb212, 2, none⟩ = some (.int .i64 a0_2) := (blk_cell BK212.out 2).trans rfl
          have hcz52_3 : wc.cell? ⟨gb212, 3, none⟩ = some (.int .i64 a0_3) := (blk_cell BK212.out 3).trans rfl
          have hcz52_4 : wc.cell? ⟨gb212, 4, none⟩ = some (.int .i64 a0_4) := (blk_cell BK212.out 4).trans rfl
          have hcz52_5 : wc.cell? ⟨gb212, 5, none⟩ = some (.int .u32 a0_5) := (blk_cell BK212.out 5).trans rfl
          have hfz52_0 := blk_frozen BK212.out 0
          have hfz52_1 := blk_frozen BK212.out 1
          have hfz52_2 := blk_frozen BK212.out 2
          have hfz52_3 := blk_frozen BK212.out 3
          have hfz52_4 := blk_frozen BK212.out 4
          have hfz52_5 := blk_frozen BK212.out 5
          have hcz53_0 : wc.cell? ⟨gb217, 0, none⟩ = some (.int .u32 t213) := (blk_cell BK217.out 0).trans rfl
          have hcz53_1 : wc.cell? ⟨gb217, 1, none⟩ = some (.int .u32 t214) := (blk_cell BK217.out 1).trans rfl
          have hcz53_2 : wc.cell? ⟨gb217, 2, none⟩ = some (.int .u32 t215) := (blk_cell BK217.out 2).trans rfl
          have hcz53_3 : wc.cell? ⟨gb217, 3, none⟩ = some (.string t216) := (blk_cell BK217.out 3).trans rfl
          have hfz53_0 := blk_frozen BK217.out 0
          have hfz53_1 := blk_frozen BK217.out 1
          have hfz53_2 := blk_frozen BK217.out 2
          have hfz53_3 := blk_frozen BK217.out 3
          go_wp2
          go_ret2
          exact ⟨by first | rfl | (simp [errW_none, errW_some] <;> rfl) | (simp [*, errW_none, errW_some] <;> rfl), by repeat (first | (with_reducible first | exact HB.out | apply below_alloc | apply pw_below_drewN | apply below_drew1 | refine below_set ?_ GE212.out | refine below_set ?_ GE217.out) | exact HB.out)⟩
        rw [if_neg c50] at H
        have c50b0 : (t216.toList == ([100, 115, 100] : List UInt8)) = false := beq_eq_false_iff_ne.mpr c50
        have c50b1 : (t216.toList != ([100, 115, 100] : List UInt8)) = true := bne_iff_ne.mpr c50
        by_cases c54 : t216.toList = ([100, 116, 114] : List UInt8)
        · rw [if_pos c54] at H
          have c54b0 : (t216.toList == ([100, 116, 114] : List UInt8)) = true := beq_iff_eq.mpr c54
          have c54b1 : (t216.toList != ([100, 116, 114] : List UInt8)) = false := bne_eq_false_iff_eq.mpr c54
          clear c54
          simp only [Option.some.injEq, Prod.mk.injEq] at H
          obtain ⟨rfl, rfl⟩ := H
          have hnb55 := NB212_217.out
          have hnc55 := NB217_212.out
          have hcz56_0 : wc.cell? ⟨gb212, 0, none⟩ = some (.string a0_0) := (blk_cell BK212.out 0).trans rfl
          have hcz56_1 : wc.cell? ⟨gb212, 1, none⟩ = some (.int .i64 a0_1) := (blk_cell BK212.out 1).trans rfl
          have hcz56_2 : wc.cell? ⟨gb212, 2, none⟩ = some (.int .i64 a0_2) := (blk_cell BK212.out 2).trans rfl
          have hcz56_3 : wc.cell? ⟨gb212, 3, none⟩ = some (.int .i64 a0_3) := (blk_cell BK212.out 3).trans rfl
          have hcz56_4 : wc.cell? ⟨gb212, 4, none⟩ = some (.int .i64 a0_4) := (blk_cell BK212.out 4).trans rfl
          have hcz56_5 : wc.cell? ⟨gb212, 5, none⟩ = some (.int .u32 a0_5) := (blk_cell BK212.out 5).trans rfl
          have hfz56_0 := blk_frozen BK212.out 0
          have hfz56_1 := blk_frozen BK212.out 1
          have hfz56_2 := blk_frozen BK212.out 2
          have hfz56_3 := blk_frozen BK212.out 3
          have hfz56_4 := blk_frozen BK212.out 4
          have hfz56_5 := blk_frozen BK212.out 5
          have hcz57_0 : wc.cell? ⟨gb217, 0, none⟩ = some (.int .u32 t213) := (blk_cell BK217.out 0).trans rfl
          have hcz57_1 : wc.cell? ⟨gb217, 1, none⟩ = some (.int .u32 t214) := (blk_cell BK217.out 1).trans rfl
          have hcz57_2 : wc.cell? ⟨gb217, 2, none⟩ = some (.int .u32 t215) := (blk_cell BK217.out 2).trans rfl
          have hcz57_3 : wc.cell? ⟨gb217, 3, none⟩ = some (.string t216) := (blk_cell BK217.out 3).trans rfl
          have hfz57_0 := blk_frozen BK217.out 0
          have hfz57_1 := blk_frozen BK217.out 1
          have hfz57_2 := blk_frozen BK217.out 2
          have hfz57_3 := blk_frozen BK217.out 3
          go_wp2
          go_ret2
          exact ⟨by first | rfl | (simp [errW_none, errW_some] <;> rfl) | (simp [*, errW_none, errW_some] <;> rfl), by repeat (first | (with_reducible first | exact HB.out | apply below_alloc | apply pw_below_drewN | apply below_drew1 | refine below_set ?_ GE212.out | refine below_set ?_ GE217.out) | exact HB.out)⟩
        rw [if_neg c54] at H
        have c54b0 : (t216.toList == ([100, 116, 114] : List UInt8)) = false := beq_eq_false_iff_ne.mpr c54
        have c54b1 : (t216.toList != ([100, 116, 114] : List UInt8)) = true := bne_iff_ne.mpr c54
        by_cases c58 : t216.toList = ([100, 116, 118] : List UInt8)
        · rw [if_pos c58] at H
          have c58b0 : (t216.toList == ([100, 116, 118] : List UInt8)) = true := beq_iff_eq.mpr c58
          have c58b1 : (t216.toList != ([100, 116, 118] : List UInt8)) = false := bne_eq_false_iff_eq.mpr c58
          clear c58
          simp only [Option.some.injEq, Prod.mk.injEq] at H
          obtain ⟨rfl, rfl⟩ := H
          have hnb59 := NB212_217.out
          have hnc59 := NB217_212.out
          have hcz60_0 : wc.cell? ⟨gb212, 0, none⟩ = some (.string a0_0) := (blk_cell BK212.out 0).trans rfl
          have hcz60_1 : wc.cell? ⟨gb212, 1, none⟩ = some (.int .i64 a0_1) := (blk_cell BK212.out 1).trans rfl
          have hcz60_2 : wc.cell? ⟨gb212, 2, none⟩ = some (.int .i64 a0_2) := (blk_cell BK212.out 2).trans rfl
          have hcz60_3 : wc.cell? ⟨gb212, 3, none⟩ = some (.int .i64 a0_3) := (blk_cell BK212.out 3).trans rfl
          have hcz60_4 : wc.cell? ⟨gb212, 4, none⟩ = some (.int .i64 a0_4) := (blk_cell BK212.out 4).trans rfl
          have hcz60_5 : wc.cell? ⟨gb212, 5, none⟩ = some (.int .u32 a0_5) := (blk_cell BK212.out 5).trans rfl
          have hfz60_0 := blk_frozen BK212.out 0
          have hfz60_1 := blk_frozen BK212.out 1
          have hfz60_2 := blk_frozen BK212.out 2
          have hfz60_3 := blk_frozen BK212.out 3
          have hfz60_4 := blk_frozen BK212.out 4
          have hfz60_5 := blk_frozen BK212.out 5
          have hcz61_0 : wc.cell? ⟨gb217, 0, none⟩ = some (.int .u32 t213) := (blk_cell BK217.out 0).trans rfl
          have hcz61_1 : wc.cell? ⟨gb217, 1, none⟩ = some (.int .u32 t214) := (blk_cell BK217.out 1).trans rfl
          have hcz61_2 : wc.cell? ⟨gb217, 2, none⟩ = some (.int .u32 t215) := (blk_cell BK217.out 2).trans rfl
          have hcz61_3 : wc.cell? ⟨gb217, 3, none⟩ = some (.string t216) := (blk_cell BK217.out 3).trans rfl
          have hfz61_0 := blk_frozen BK217.out 0
          have hfz61_1 := blk_frozen BK217.out 1
          have hfz61_2 := blk_frozen BK217.out 2
          have hfz61_3 := blk_frozen BK217.out 3
          go_wp2
          go_ret2
          exact ⟨by first | rfl | (simp [errW_none, errW_some] <;> rfl) | (simp [*, errW_none, errW_some] <;> rfl), by repeat (first | (with_reducible first | exact HB.out | apply below_alloc | apply pw_below_drewN | apply below_drew1 | refine below_set ?_ GE212.out | refine below_set ?_ GE217.out) | exact HB.out)⟩
        rw [if_neg c58] at H
        have c58b0 : (t216.toList == ([100, 116, 118] : List UInt8)) = false := beq_eq_false_iff_ne.mpr c58
        have c58b1 : (t216.toList != ([100, 116, 118] : List UInt8)) = true := bne_iff_ne.mpr c58
        by_cases c62 : t216.toList = ([100, 116] : List UInt8)
        · rw [if_pos c62] at H
          have c62b0 : (t216.toList == ([100, 116] : List UInt8)) = true := beq_iff_eq.mpr c62
          have c62b1 : (t216.toList != ([100, 116] : List UInt8)) = false := bne_eq_false_iff_eq.mpr c62
          clear c62
          simp only [Option.some.injEq, Prod.mk.injEq] at H
          obtain ⟨rfl, rfl⟩ := H
          have hnb63 := NB217_212.out
          have hnc63 := NB212_217.out
          have hcz64_0 : wc.cell? ⟨gb217, 0, none⟩ = some (.int .u32 t213) := (blk_cell BK217.out 0).trans rfl
          have hcz64_1 : wc.cell? ⟨gb217, 1, none⟩ = some (.int .u32 t214) := (blk_cell BK217.out 1).trans rfl
          have hcz64_2 : wc.cell? ⟨gb217, 2, none⟩ = some (.int .u32 t215) := (blk_cell BK217.out 2).trans rfl
          have hcz64_3 : wc.cell? ⟨gb217, 3, none⟩ = some (.string t216) := (blk_cell BK217.out 3).trans rfl
          have hfz64_0 := blk_frozen BK217.out 0
          have hfz64_1 := blk_frozen BK217.out 1
          have hfz64_2 := blk_frozen BK217.out 2
          have hfz64_3 := blk_frozen BK217.out 3
          have hcz65_0 : wc.cell? ⟨gb212, 0, none⟩ = some (.string a0_0) := (blk_cell BK212.out 0).trans rfl
          have hcz65_1 : wc.cell? ⟨gb212, 1, none⟩ = some (.int .i64 a0_1) := (blk_cell BK212.out 1).trans rfl
          have hcz65_2 : wc.cell? ⟨gb212, 2, none⟩ = some (.int .i64 a0_2) := (blk_cell BK212.out 2).trans rfl
          have hcz65_3 : wc.cell? ⟨gb212, 3, none⟩ = some (.int .i64 a0_3) := (blk_cell BK212.out 3).trans rfl
          have hcz65_4 : wc.cell? ⟨gb212, 4, none⟩ = some (.int .i64 a0_4) := (blk_cell BK212.out 4).trans rfl
          have hcz65_5 : wc.cell? ⟨gb212, 5, none⟩ = some (.int .u32 a0_5) := (blk_cell BK212.out 5).trans rfl
          have hfz65_0 := blk_frozen BK212.out 0
          have hfz65_1 := blk_frozen BK212.out 1
          have hfz65_2 := blk_frozen BK212.out 2
          have hfz65_3 := blk_frozen BK212.out 3
          have hfz65_4 := blk_frozen BK212.out 4
          have hfz65_5 := blk_frozen BK212.out 5
          go_wp2
          go_ret2
          exact ⟨by first | rfl | (simp [errW_none, errW_some] <;> rfl) | (simp [*, errW_none, errW_some] <;> rfl), by repeat (first | (with_reducible first | exact HB.out | apply below_alloc | apply pw_below_drewN | apply below_drew1 | refine below_set ?_ GE212.out | refine below_set ?_ GE217.out) | exact HB.out)⟩
        rw [if_neg c62] at H
        have c62b0 : (t216.toList == ([100, 116] : List UInt8)) = false := beq_eq_false_iff_ne.mpr c62
        have c62b1 : (t216.toList != ([100, 116] : List UInt8)) = true := bne_iff_ne.mpr c62
        simp only [Option.some.injEq, Prod.mk.injEq] at H
        obtain ⟨rfl, rfl⟩ := H
        have hnb66 := NB212_217.out
        have hnc66 := NB217_212.out
        have hcz67_0 : wc.cell? ⟨gb212, 0, none⟩ = some (.string a0_0) := (blk_cell BK212.out 0).trans rfl
        have hcz67_1 : wc.cell? ⟨gb212, 1, none⟩ = some (.int .i64 a0_1) := (blk_cell BK212.out 1).trans rfl
        have hcz67_2 : wc.cell? ⟨gb212, 2, none⟩ = some (.int .i64 a0_2) := (blk_cell BK212.out 2).trans rfl
        have hcz67_3 : wc.cell? ⟨gb212, 3, none⟩ = some (.int .i64 a0_3) := (blk_cell BK212.out 3).trans rfl
        have hcz67_4 : wc.cell? ⟨gb212, 4, none⟩ = some (.int .i64 a0_4) := (blk_cell BK212.out 4).trans rfl
        have hcz67_5 : wc.cell? ⟨gb212, 5, none⟩ = some (.int .u32 a0_5) := (blk_cell BK212.out 5).trans rfl
        have hfz67_0 := blk_frozen BK212.out 0
        have hfz67_1 := blk_frozen BK212.out 1
        have hfz67_2 := blk_frozen BK212.out 2
        have hfz67_3 := blk_frozen BK212.out 3
        have hfz67_4 := blk_frozen BK212.out 4
        have hfz67_5 := blk_frozen BK212.out 5
        have hcz68_0 : wc.cell? ⟨gb217, 0, none⟩ = some (.int .u32 t213) := (blk_cell BK217.out 0).trans rfl
        have hcz68_1 : wc.cell? ⟨gb217, 1, none⟩ = some (.int .u32 t214) := (blk_cell BK217.out 1).trans rfl
        have hcz68_2 : wc.cell? ⟨gb217, 2, none⟩ = some (.int .u32 t215) := (blk_cell BK217.out 2).trans rfl
        have hcz68_3 : wc.cell? ⟨gb217, 3, none⟩ = some (.string t216) := (blk_cell BK217.out 3).trans rfl
        have hfz68_0 := blk_frozen BK217.out 0
        have hfz68_1 := blk_frozen BK217.out 1
        have hfz68_2 := blk_frozen BK217.out 2
        have hfz68_3 := blk_frozen BK217.out 3
        go_wp2
        go_ret2
        exact ⟨by first | rfl | (simp [errW_none, errW_some] <;> rfl) | (simp [*, errW_none, errW_some] <;> rfl), by repeat (first | (with_reducible first | exact HB.out | apply below_alloc | apply pw_below_drewN | apply below_drew1 | refine below_set ?_ GE212.out | refine below_set ?_ GE217.out) | exact HB.out)⟩
  replace c4 := Bool.eq_false_iff.mpr c4
  subst c4
  have H1 : (some (0, false)) = some (r1, r2) := by rw [if_neg (show ¬ (false = true) by decide)] at H; exact H
  clear H
  have H := H1
  clear H1
  simp only [Option.some.injEq, Prod.mk.injEq] at H
  obtain ⟨rfl, rfl⟩ := H
  go_enter Tryd.func22, Tryd.ntmps22
  go_wp2_with (first | ((with_reducible refine gate_dst (N := 1) rfl ?_); refine box_event ?hg (N := 1) ?hd (cs := #[.string a0_0, .int .i64 a0_1, .int .i64 a0_2, .int .i64 a0_3, .int .i64 a0_4, .int .u32 a0_5]) (t := 29) ?hr ?_; (case hd => rfl); (case hg => rfl); (case hr => first | (go_simp; done) | (go_simp; rfl)); intro gb212 hg w69 hbox hb; have n0_ := Aside0.mk (below_step (by repeat (first | (with_reducible first | exact HB.out | apply below_alloc | apply pw_below_drewN | apply below_drew1) | exact HB.out)) hb); have n1_ := Aside0.mk (hbox); have n2_ := Aside0.mk ((by rw [hg]; exact (below_size (by repeat (first | (with_reducible first | exact HB.out | apply below_alloc | apply pw_below_drewN | apply below_drew1) | exact HB.out))) : w.heap.size ≤ gb212)); have n3_ := Aside0.mk ((by rw [hg]; exact (below_size (by repeat (first | (with_reducible first | exact HB.out | apply below_alloc | apply pw_below_drewN | apply below_drew1) | exact HB.out))) : w.heap.size ≤ gb212)); clear HB; have HB := n0_; have BK212 := n1_; have GW212 := n2_; have GE212 := n3_; clear n0_ n1_ n2_ n3_; clear hb hbox hg; have hcz70_0 : w69.cell? ⟨gb212, 0, none⟩ = some (.string a0_0) := (blk_cell BK212.out 0).trans rfl; have hcz70_1 : w69.cell? ⟨gb212, 1, none⟩ = some (.int .i64 a0_1) := (blk_cell BK212.out 1).trans rfl; have hcz70_2 : w69.cell? ⟨gb212, 2, none⟩ = some (.int .i64 a0_2) := (blk_cell BK212.out 2).trans rfl; have hcz70_3 : w69.cell? ⟨gb212, 3, none⟩ = some (.int .i64 a0_3) := (blk_cell BK212.out 3).trans rfl; have hcz70_4 : w69.cell? ⟨gb212, 4, none⟩ = some (.int .i64 a0_4) := (blk_cell BK212.out 4).trans rfl; have hcz70_5 : w69.cell? ⟨gb212, 5, none⟩ = some (.int .u32 a0_5) := (blk_cell BK212.out 5).trans rfl; have hfz70_0 := blk_frozen BK212.out 0; have hfz70_1 := blk_frozen BK212.out 1; have hfz70_2 := blk_frozen BK212.out 2; have hfz70_3 := blk_frozen BK212.out 3; have hfz70_4 := blk_frozen BK212.out 4; have hfz70_5 := blk_frozen BK212.out 5) | ((with_reducible refine gate_callee (f := 41) rfl ?_); refine goesL_ (some 11) rfl rfl Tryd.func41 (by kernel_rfl) rfl #[.string a0_0] rfl (by (try simp only [List.map_toArray, List.map_cons, List.map_nil]); first | done | rfl | (simp only [List.length_drop, List.length_take]; rfl)) ?_; (with_reducible refine (ferryref07_special.calls a0_0 t213 t214 t215 t216 _ A2.out).mono ?_); rintro e w71 ⟨rfl, hb⟩; refine ⟨_, rfl, ?_⟩; have n0_ := Aside0.mk (blk_below (g := gb212) (o := .cells #[.string a0_0, .int .i64 a0_1, .int .i64 a0_2, .int .i64 a0_3, .int .i64 a0_4, .int .u32 a0_5] 29 (0, 0)) (by (with_reducible repeat (first | refine blk_drewN ?_ _ | refine blk_drew ?_ | refine blk_alloc ?_ _)); exact BK212.out) hb); have n1_ := Aside0.mk (below_step (by repeat (first | (with_reducible first | exact HB.out | apply below_alloc | apply pw_below_drewN | apply below_drew1 | refine below_set ?_ GE212.out) | exact HB.out)) hb); clear BK212; clear HB; have BK212 := n0_; have HB := n1_; clear n0_ n1_; (try clear hb); (try clear hb2); (try clear hk); (try clear hi)) | ((with_reducible refine gate_dst (N := 4) rfl ?_); refine box_event ?hg (N := 4) ?hd (cs := #[.int .u32 0, .int .u32 0, .int .u32 0, .string (⟨#[]⟩ : ByteArray)]) (t := 60) ?hr ?_; (case hd => rfl); (case hg => rfl); (case hr => first | (go_simp; done) | (go_simp; rfl)); intro gb217 hg w72 hbox hb; have n0_ := Aside0.mk (blk_below (g := gb212) (o := .cells #[.string a0_0, .int .i64 a0_1, .int .i64 a0_2, .int .i64 a0_3, .int .i64 a0_4, .int .u32 a0_5] 29 (0, 0)) (by (with_reducible repeat (first | refine blk_drewN ?_ _ | refine blk_drew ?_ | refine blk_alloc ?_ _)); exact BK212.out) hb); have n1_ := Aside0.mk (below_step (by repeat (first | (with_reducible first | exact HB.out | apply below_alloc | apply pw_below_drewN | apply below_drew1 | refine below_set ?_ GE212.out) | exact HB.out)) hb); have n2_ := Aside0.mk (hbox); have n3_ := Aside0.mk ((by rw [hg]; exact (below_size (by repeat (first | (with_reducible first | exact HB.out | apply below_alloc | apply pw_below_drewN | apply below_drew1 | refine below_set ?_ GE212.out) | exact HB.out))) : w.heap.size ≤ gb217)); have n4_ := Aside0.mk ((by rw [hg]; exact (below_size (by repeat (first | (with_reducible first | exact HB.out | apply below_alloc | apply pw_below_drewN | apply below_drew1 | refine below_set ?_ GE212.out) | exact HB.out))) : w.heap.size ≤ gb217)); have n5_ := Aside0.mk ((by rw [hg]; exact Nat.ne_of_lt (blk_lt (g := gb212) (o := .cells #[.string a0_0, .int .i64 a0_1, .int .i64 a0_2, .int .i64 a0_3, .int .i64 a0_4, .int .u32 a0_5] 29 (0, 0)) (by (with_reducible repeat (first | refine blk_drewN ?_ _ | refine blk_drew ?_ | refine blk_alloc ?_ _)); exact BK212.out)) : gb212 ≠ gb217)); have n6_ := Aside0.mk ((by rw [hg]; exact Nat.ne_of_gt (blk_lt (g := gb212) (o := .cells #[.string a0_0, .int .i64 a0_1, .int .i64 a0_2, .int .i64 a0_3, .int .i64 a0_4, .int .u32 a0_5] 29 (0, 0)) (by (with_reducible repeat (first | refine blk_drewN ?_ _ | refine blk_drew ?_ | refine blk_alloc ?_ _)); exact BK212.out)) : gb217 ≠ gb212)); clear BK212; clear HB; have BK212 := n0_; have HB := n1_; have BK217 := n2_; have GW217 := n3_; have GE217 := n4_; have NB212_217 := n5_; have NB217_212 := n6_; clear n0_ n1_ n2_ n3_ n4_ n5_ n6_; clear hb hbox hg; have hnb73 := NB217_212.out; have hnc73 := NB212_217.out; have hcz74_0 : w72.cell? ⟨gb217, 0, none⟩ = some (.int .u32 0) := (blk_cell BK217.out 0).trans rfl; have hcz74_1 : w72.cell? ⟨gb217, 1, none⟩ = some (.int .u32 0) := (blk_cell BK217.out 1).trans rfl; have hcz74_2 : w72.cell? ⟨gb217, 2, none⟩ = some (.int .u32 0) := (blk_cell BK217.out 2).trans rfl; have hcz74_3 : w72.cell? ⟨gb217, 3, none⟩ = some (.string (⟨#[]⟩ : ByteArray)) := (blk_cell BK217.out 3).trans rfl; have hfz74_0 := blk_frozen BK217.out 0; have hfz74_1 := blk_frozen BK217.out 1; have hfz74_2 := blk_frozen BK217.out 2; have hfz74_3 := blk_frozen BK217.out 3; have hcz75_0 : w72.cell? ⟨gb212, 0, none⟩ = some (.string a0_0) := (blk_cell BK212.out 0).trans rfl; have hcz75_1 : w72.cell? ⟨gb212, 1, none⟩ = some (.int .i64 a0_1) := (blk_cell BK212.out 1).trans rfl; have hcz75_2 : w72.cell? ⟨gb212, 2, none⟩ = some (.int .i64 a0_2) := (blk_cell BK212.out 2).trans rfl; have hcz75_3 : w72.cell? ⟨gb212, 3, none⟩ = some (.int .i64 a0_3) := (blk_cell BK212.out 3).trans rfl; have hcz75_4 : w72.cell? ⟨gb212, 4, none⟩ = some (.int .i64 a0_4) := (blk_cell BK212.out 4).trans rfl; have hcz75_5 : w72.cell? ⟨gb212, 5, none⟩ = some (.int .u32 a0_5) := (blk_cell BK212.out 5).trans rfl; have hfz75_0 := blk_frozen BK212.out 0; have hfz75_1 := blk_frozen BK212.out 1; have hfz75_2 := blk_frozen BK212.out 2; have hfz75_3 := blk_frozen BK212.out 3; have hfz75_4 := blk_frozen BK212.out 4; have hfz75_5 := blk_frozen BK212.out 5) | ((with_reducible refine gate_callee (f := 42) rfl ?_); refine goesL_ (some 14) rfl rfl Tryd.func42 (by kernel_rfl) rfl #[.agg #[.string a0_0, .int .i64 a0_1, .int .i64 a0_2, .int .i64 a0_3, .int .i64 a0_4, .int .u32 a0_5], .agg #[.int .u32 t213, .int .u32 t214, .int .u32 t215, .string t216]] rfl (by (try simp only [List.map_toArray, List.map_cons, List.map_nil]); first | done | rfl | (simp only [List.length_drop, List.length_take]; rfl)) ?_; (with_reducible refine (ferryref07_fit.calls a0_0 a0_1 a0_2 a0_3 a0_4 a0_5 t213 t214 t215 t216 false _ A3.out).mono ?_); rintro e w76 ⟨rfl, hb⟩; refine ⟨_, rfl, ?_⟩; have n0_ := Aside0.mk (blk_below (g := gb212) (o := .cells #[.string a0_0, .int .i64 a0_1, .int .i64 a0_2, .int .i64 a0_3, .int .i64 a0_4, .int .u32 a0_5] 29 (0, 0)) (by (with_reducible repeat (first | refine blk_drewN ?_ _ | refine blk_drew ?_ | refine blk_alloc ?_ _)); refine blk_far ?_ NB212_217.out _; (with_reducible repeat (first | refine blk_drewN ?_ _ | refine blk_drew ?_ | refine blk_alloc ?_ _)); refine blk_far ?_ NB212_217.out _; (with_reducible repeat (first | refine blk_drewN ?_ _ | refine blk_drew ?_ | refine blk_alloc ?_ _)); refine blk_far ?_ NB212_217.out _; (with_reducible repeat (first | refine blk_drewN ?_ _ | refine blk_drew ?_ | refine blk_alloc ?_ _)); refine blk_far ?_ NB212_217.out _; (with_reducible repeat (first | refine blk_drewN ?_ _ | refine blk_drew ?_ | refine blk_alloc ?_ _)); exact BK212.out) hb); have n1_ := Aside0.mk (blk_below (g := gb217) (o := .cells #[.int .u32 t213, .int .u32 t214, .int .u32 t215, .string t216] 60 (0, 0)) (by (with_reducible repeat (first | refine blk_drewN ?_ _ | refine blk_drew ?_ | refine blk_alloc ?_ _)); refine blk_put (cs := #[.int .u32 t213, .int .u32 t214, .int .u32 t215, .string (⟨#[]⟩ : ByteArray)]) ?_ 3 _ rfl; (with_reducible repeat (first | refine blk_drewN ?_ _ | refine blk_drew ?_ | refine blk_alloc ?_ _)); refine blk_put (cs := #[.int .u32 t213, .int .u32 t214, .int .u32 0, .string (⟨#[]⟩ : ByteArray)]) ?_ 2 _ rfl; (with_reducible repeat (first | refine blk_drewN ?_ _ | refine blk_drew ?_ | refine blk_alloc ?_ _)); refine blk_put (cs := #[.int .u32 t213, .int .u32 0, .int .u32 0, .string (⟨#[]⟩ : ByteArray)]) ?_ 1 _ rfl; (with_reducible repeat (first | refine blk_drewN ?_ _ | refine blk_drew ?_ | refine blk_alloc ?_ _)); refine blk_put (cs := #[.int .u32 0, .int .u32 0, .int .u32 0, .string (⟨#[]⟩ : ByteArray)]) ?_ 0 _ rfl; (with_reducible repeat (first | refine blk_drewN ?_ _ | refine blk_drew ?_ | refine blk_alloc ?_ _)); exact BK217.out) hb); have n2_ := Aside0.mk (below_step (by repeat (first | (with_reducible first | exact HB.out | apply below_alloc | apply pw_below_drewN | apply below_drew1 | refine below_set ?_ GE212.out | refine below_set ?_ GE217.out) | exact HB.out)) hb); clear BK212; clear BK217; clear HB; have BK212 := n0_; have BK217 := n1_; have HB := n2_; clear n0_ n1_ n2_; (try clear hb); (try clear hb2); (try clear hk); (try clear hi)))
  go_ret2
  exact ⟨by first | rfl | (simp [errW_none, errW_some] <;> rfl) | (simp [*, errW_none, errW_some] <;> rfl), by repeat (first | (with_reducible first | exact HB.out | apply below_alloc | apply pw_below_drewN | apply below_drew1 | refine below_set ?_ GE212.out | refine below_set ?_ GE217.out) | exact HB.out)⟩

end Go.Proofs.YtnddjndgfaefaaaDoor.F
end
