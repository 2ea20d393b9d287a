import Derived.Below
import Derived.Deep.Draws
import Derived.Deep.AppendLies
import Derived.Maps.AppendAt
import Derived.OwnWalk
import Derived.Laws.BytesArg
import Derived.Laws.MakeOwn
import Derived.Laws.OwnMore
import Derived.Deep.OwnRows
import Derived.Tactics
import Derived.Lib.ConvBytes
import Derived.Laws.Slices
import Derived.WalkKit
import Derived.KernelRfl
import Derived.RowKit3
import Derived.Deep.LoopGhost
import Derived.Deep.QuietTactic
import Derived.BigQuiet
import Derived.WideLaws
import Derived.Deep.DeepCutAuto
import Derived.Deep.CutBlock
import Derived.Deep.RegionHeld3
import Derived.Laws.Rows
import Derived.Lib.AppendStr
import Derived.ArgAppend
import Derived.Laws.IdiomCopy
import Derived.RowKit
import Derived.OrdersHeld
import Derived.Laws.BitsLemmas
import Derived.Laws.StructEq
import Derived.WalkLawsBesides
import Derived.Shelf.Abstract
import Derived.Shelf.RegionOpen
import Derived.RangeFuncRecord
import Derived.OwnWalkIn
import Derived.ProofKit
import Derived.Lib.Hide
import Derived.Shelf.Small.Bits
import Derived.Shelf.LaysM
import Derived.Shelf.Strings.Fields
import Derived.Shelf.Strings.Replace
import Derived.Shelf.Strings.SplitShaped
import Derived.Lib.LaidTab
import Derived.Maps.OwnOps
import Derived.WalkSmall
import Derived.Laws.ResultCell
import Derived.Deep.RegionWith
import Derived.Defers
import Derived.Recover
import Derived.Tactics2
import Derived.Test.YtnddjndgfaefaaaDoorVZF0
import Derived.Test.YtnddjndgfaefaaaDoorVA0
import Derived.Test.YtnddjndgfaefaaaDoorVA3HDecTake
import Derived.Test.YtnddjndgfaefaaaDoorVA4
import Derived.Test.YtnddjndgfaefaaaDoorVA5FAluSmall
import Derived.Test.YtnddjndgfaefaaaDoorVA6
import Derived.Test.YtnddjndgfaefaaaDoorVA7FAluBoth
import Derived.Test.YtnddjndgfaefaaaDoorVA15FDecEncode
import Derived.Test.YtnddjndgfaefaaaDoorVA16FDecForm
section
namespace Go.Proofs.YtnddjndgfaefaaaDoor.F
open Go.RowKit Go.Shelf Go.Proofs.YtnddjndgfaefaaaDoorW.PrintWords Go.Proofs.YtnddjndgfaefaaaDoorW.PrintLast Go.Proofs.YtnddjndgfaefaaaDoorW.PrintMore
set_option linter.unusedVariables false
set_option linter.unusedSimpArgs false
set_option maxHeartbeats 4000000 in
set_option maxRecDepth 100000 in
theorem alu_small.throws (nm : ByteArray) (x1 x2 d a i s v : Int) (w : World) (y : (nm.toList == [97, 100, 100, 105]) = true) (hv : swap_Sext.f i 16 = some v) (ho : sumOver s v = true) :
    Calls Tryd.prog 19 #[.agg #[.string nm, .int .i64 x1, .int .i64 x2, .int .i64 d, .int .i64 a, .int .u32 i], .int .u32 s] w fun e w' => e = .panicked thrown ∧ Below w.heap.size w w' := by
  have T1 := Lib.hid (one_block w (.cells #[.string nm, .int .i64 x1, .int .i64 x2, .int .i64 d, .int .i64 a, .int .u32 i] 29))
  have SX := Lib.hid (fun w => swap_Sext.calls _ _ v w hv)
  have SU := Lib.hid (fun w => alu_sum.throws s v w ho)
  clear hv ho
  go_enter Tryd.func19, Tryd.ntmps19
  go_wp2_with (first | (go_at_call 34; refine (SX.out _).mono ?_; rintro e w' ⟨rfl, ⟨nd, rfl⟩⟩) | (go_at_call 35; refine (SU.out _).mono ?_; rintro e w' ⟨rfl, rfl⟩))
  exact ⟨rfl, rfl, T1.out.2.2.trans ⟨rfl, rfl, rfl, Nat.le_refl _, fun _ _ => rfl⟩⟩
set_option maxHeartbeats 4000000 in
set_option maxRecDepth 100000 in
theorem alu_both.throws_add (nm : ByteArray) (x1 x2 d a i s t : Int) (w : World) (y : (nm.toList == [97, 100, 100]) = true) (ho : sumOver s t = true) :
    Calls Tryd.prog 21 #[.agg #[.string nm, .int .i64 x1, .int .i64 x2, .int .i64 d, .int .i64 a, .int .u32 i], .int .u32 s, .int .u32 t] w fun e w' => e = .panicked thrown ∧ Below w.heap.size w w' := by
  have T1 := Lib.hid (one_block w (.cells #[.string nm, .int .i64 x1, .int .i64 x2, .int .i64 d, .int .i64 a, .int .u32 i] 29))
  have SU := Lib.hid (fun w => alu_sum.throws s t w ho)
  clear ho
  go_enter Tryd.func21, Tryd.ntmps21
  go_wp2_with (go_at_call 35; refine (SU.out _).mono ?_; rintro e w' ⟨rfl, rfl⟩)
  exact ⟨rfl, rfl, T1.out.2.2⟩
set_option maxHeartbeats 4000000 in
set_option maxRecDepth 100000 in
theorem alu_both.throws_sub (nm : ByteArray) (x1 x2 d a i s t : Int) (w : World) (y : (nm.toList == [115, 117, 98]) = true) (n0 : (nm.toList == [97, 100, 100]) = false) (ho : lessOver s t = true) :
    Calls Tryd.prog 21 #[.agg #[.string nm, .int .i64 x1, .int .i64 x2, .int .i64 d, .int .i64 a, .int .u32 i], .int .u32 s, .int .u32 t] w fun e w' => e = .panicked thrown ∧ Below w.heap.size w w' := by
  have T1 := Lib.hid (one_block w (.cells #[.string nm, .int .i64 x1, .int .i64 x2, .int .i64 d, .int .i64 a, .int .u32 i] 29))
  have SU := Lib.hid (fun w => alu_less.throws s t w ho)
  clear ho
  go_enter Tryd.func21, Tryd.ntmps21
  go_wp2_with (go_at_call 39; refine (SU.out _).mono ?_; rintro e w' ⟨rfl, rfl⟩)
  exact ⟨rfl, rfl, T1.out.2.2⟩
structure DoW (nm : ByteArray) (x1 x2 d a i s t : Int) (w W : World) (vn vo : Value) : Prop where
  box : W.heap[w.heap.size]? = some (.cells #[.string nm, .int .i64 x1, .int .i64 x2, .int .i64 d, .int .i64 a, .int .u32 i] 29 (0, 0))
  nb : W.heap[w.heap.size + 1]? = some (.cells #[vn] 22 (0, 0))
  ob : W.heap[w.heap.size + 1 + 1]? = some (.cells #[vo] 4 (0, 0))
  bel : Below w.heap.size w W
theorem DoW.first (nm : ByteArray) (x1 x2 d a i s t : Int) (w : World) : DoW nm x1 x2 d a i s t w (((w.alloc (.cells #[.string nm, .int .i64 x1, .int .i64 x2, .int .i64 d, .int .i64 a, .int .u32 i] 29)).alloc (.cells #[.int .u32 0] 22)).alloc (.cells #[.bool false] 4)) (.int .u32 0) (.bool false) := by
  have s1 : (w.alloc (.cells #[.string nm, .int .i64 x1, .int .i64 x2, .int .i64 d, .int .i64 a, .int .u32 i] 29)).heap.size = w.heap.size + 1 := World.size_alloc _ _
  have s2 : ((w.alloc (.cells #[.string nm, .int .i64 x1, .int .i64 x2, .int .i64 d, .int .i64 a, .int .u32 i] 29)).alloc (.cells #[.int .u32 0] 22)).heap.size = w.heap.size + 1 + 1 := by rw [World.size_alloc, s1]
  refine ⟨?_, ?_, ?_, ?_⟩
  · exact (Below.heap_alloc _ _ _ (by omega)).trans ((Below.heap_alloc _ _ _ (by omega)).trans (World.alloc_heap_new w _))
  · refine (Below.heap_alloc _ _ _ (by omega)).trans ?_
    rw [← s1]
    exact World.alloc_heap_new _ _
  · rw [← s2]
    exact World.alloc_heap_new _ _
  · exact (((Below.refl _ w).alloc (Nat.le_refl _) _).alloc (by omega) _).alloc (by omega) _
theorem DoW.step {nm : ByteArray} {x1 x2 d a i s t : Int} {w W W' : World} {vn vo : Value} (h : DoW nm x1 x2 d a i s t w W vn vo) (hb : Below W.heap.size W W') : DoW nm x1 x2 d a i s t w W' vn vo :=
  ⟨(hb.block _ (dblk_lt h.box)).trans h.box, (hb.block _ (dblk_lt h.nb)).trans h.nb, (hb.block _ (dblk_lt h.ob)).trans h.ob, h.bel.trans (hb.mono h.bel.size)⟩
set_option maxHeartbeats 8000000 in
set_option maxRecDepth 100000 in
theorem do_no_enc (nm : ByteArray) (x1 x2 d a i s t : Int) (w : World) (hL : Laid w) (r1 : Int) (he : dec_Encode.f nm x1 x2 d a i = some (r1, false)) :
    Calls Tryd.prog 10 #[.agg #[.string nm, .int .i64 x1, .int .i64 x2, .int .i64 d, .int .i64 a, .int .u32 i], .int .u32 s, .int .u32 t] w fun e w' => e = .returned (.tuple #[.int .u32 0, .bool false]) ∧ Below w.heap.size w w' := by
  have D0 := Lib.hid (DoW.first nm x1 x2 d a i s t w)
  have hL0 := Lib.hid (fun (W : World) (h : Below w.heap.size w W) => hL.below h)
  have hu := Tryd.underlying29
  have hmf : ∀ (fn : Fn) (first cap : Array Value) (w : World), (Instr.makeFunc fn first cap).run Tryd.prog w = .ok (.func fn first cap) w := fun _ _ _ _ => rfl
  have EN := Lib.hid (fun w hL => dec_Encode.calls nm x1 x2 d a i _ _ w hL he)
  clear he
  go_enter_defers Tryd.func10, Tryd.ntmps10
  go_wp2_with (first
    | (go_at_call 16; (with_reducible refine (EN.out _ (hL0.out _ D0.out.bel)).mono ?_); rintro ex w1 ⟨rfl, hb⟩; have D1 := Lib.hid (D0.out.step hb); clear hb; have D := D1.out; have c0 := dblk_cell (j := 0) (v := .string nm) D.box rfl; have c1 := dblk_cell (j := 1) (v := .int .i64 x1) D.box rfl; have c2 := dblk_cell (j := 2) (v := .int .i64 x2) D.box rfl; have c3 := dblk_cell (j := 3) (v := .int .i64 d) D.box rfl; have c4 := dblk_cell (j := 4) (v := .int .i64 a) D.box rfl; have c5 := dblk_cell (j := 5) (v := .int .u32 i) D.box rfl; have e0 := dblk_cell (j := 0) (v := .int .u32 0) D.nb rfl; have f0 := dblk_free (j := 0) D.nb; have e1 := dblk_cell (j := 0) (v := .bool false) D.ob rfl; have f1 := dblk_free (j := 0) D.ob; clear D))
  simp [bodyPostD, Leaves, results, Tryd.results10, go_sem, e0, e1, f0, f1]
  exact (Below.setCell (p := ⟨w.heap.size + 1 + 1, 0, none⟩) (Below.setCell (p := ⟨w.heap.size + 1, 0, none⟩) D1.out.bel (Nat.le_add_right _ 1) _) (Nat.le_add_right _ 2) _)
set_option maxHeartbeats 8000000 in
set_option maxRecDepth 100000 in
theorem do_no_known (nm : ByteArray) (x1 x2 d a i s t : Int) (w : World) (hL : Laid w) (r1 : Int) (he : dec_Encode.f nm x1 x2 d a i = some (r1, true)) (hk : alu_Known.f nm = some false) :
    Calls Tryd.prog 10 #[.agg #[.string nm, .int .i64 x1, .int .i64 x2, .int .i64 d, .int .i64 a, .int .u32 i], .int .u32 s, .int .u32 t] w fun e w' => e = .returned (.tuple #[.int .u32 0, .bool false]) ∧ Below w.heap.size w w' := by
  have D0 := Lib.hid (DoW.first nm x1 x2 d a i s t w)
  have hL0 := Lib.hid (fun (W : World) (h : Below w.heap.size w W) => hL.below h)
  have hu := Tryd.underlying29
  have hmf : ∀ (fn : Fn) (first cap : Array Value) (w : World), (Instr.makeFunc fn first cap).run Tryd.prog w = .ok (.func fn first cap) w := fun _ _ _ _ => rfl
  have EN := Lib.hid (fun w hL => dec_Encode.calls nm x1 x2 d a i _ _ w hL he)
  clear he
  have KN := Lib.hid (fun w hL => alu_Known.calls nm _ w hL hk)
  clear hk
  go_enter_defers Tryd.func10, Tryd.ntmps10
  go_wp2_with (first
    | (go_at_call 16; (with_reducible refine (EN.out _ (hL0.out _ D0.out.bel)).mono ?_); rintro ex w1 ⟨rfl, hb⟩; have D1 := Lib.hid (D0.out.step hb); clear hb; have D := D1.out; have c0 := dblk_cell (j := 0) (v := .string nm) D.box rfl; have c1 := dblk_cell (j := 1) (v := .int .i64 x1) D.box rfl; have c2 := dblk_cell (j := 2) (v := .int .i64 x2) D.box rfl; have c3 := dblk_cell (j := 3) (v := .int .i64 d) D.box rfl; have c4 := dblk_cell (j := 4) (v := .int .i64 a) D.box rfl; have c5 := dblk_cell (j := 5) (v := .int .u32 i) D.box rfl; have e0 := dblk_cell (j := 0) (v := .int .u32 0) D.nb rfl; have f0 := dblk_free (j := 0) D.nb; have e1 := dblk_cell (j := 0) (v := .bool false) D.ob rfl; have f1 := dblk_free (j := 0) D.ob; clear D)
    | (go_at_call 12; (with_reducible refine (KN.out _ (hL0.out _ D1.out.bel)).mono ?_); rintro ex w2 ⟨rfl, hb⟩; clear c0 c1 c2 c3 c4 c5 e0 f0 e1 f1; have D2 := Lib.hid (D1.out.step hb); clear hb; have D := D2.out; have c0 := dblk_cell (j := 0) (v := .string nm) D.box rfl; have c1 := dblk_cell (j := 1) (v := .int .i64 x1) D.box rfl; have c2 := dblk_cell (j := 2) (v := .int .i64 x2) D.box rfl; have c3 := dblk_cell (j := 3) (v := .int .i64 d) D.box rfl; have c4 := dblk_cell (j := 4) (v := .int .i64 a) D.box rfl; have c5 := dblk_cell (j := 5) (v := .int .u32 i) D.box rfl; have e0 := dblk_cell (j := 0) (v := .int .u32 0) D.nb rfl; have f0 := dblk_free (j := 0) D.nb; have e1 := dblk_cell (j := 0) (v := .bool false) D.ob rfl; have f1 := dblk_free (j := 0) D.ob; clear D))
  simp [bodyPostD, Leaves, results, Tryd.results10, go_sem, e0, e1, f0, f1]
  exact (Below.setCell (p := ⟨w.heap.size + 1 + 1, 0, none⟩) (Below.setCell (p := ⟨w.heap.size + 1, 0, none⟩) D2.out.bel (Nat.le_add_right _ 1) _) (Nat.le_add_right _ 2) _)
set_option maxHeartbeats 8000000 in
set_option maxRecDepth 100000 in
theorem do_tsi (nm : ByteArray) (x1 x2 d a i s t : Int) (w : World) (hL : Laid w) (r1 : Int) (fm : ByteArray) (he : dec_Encode.f nm x1 x2 d a i = some (r1, true)) (hk : alu_Known.f nm = some true) (hf : dec_Form.f nm = some fm) (g0 : (fm.toList == [116, 115, 105]) = true) (r : Int) (hs : alu_small.f nm x1 x2 d a i s = some r) :
    Calls Tryd.prog 10 #[.agg #[.string nm, .int .i64 x1, .int .i64 x2, .int .i64 d, .int .i64 a, .int .u32 i], .int .u32 s, .int .u32 t] w fun e w' => e = .returned (.tuple #[.int .u32 r, .bool true]) ∧ Below w.heap.size w w' := by
  have D0 := Lib.hid (DoW.first nm x1 x2 d a i s t w)
  have hL0 := Lib.hid (fun (W : World) (h : Below w.heap.size w W) => hL.below h)
  have hu := Tryd.underlying29
  have hmf : ∀ (fn : Fn) (first cap : Array Value) (w : World), (Instr.makeFunc fn first cap).run Tryd.prog w = .ok (.func fn first cap) w := fun _ _ _ _ => rfl
  have EN := Lib.hid (fun w hL => dec_Encode.calls nm x1 x2 d a i _ _ w hL he)
  clear he
  have KN := Lib.hid (fun w hL => alu_Known.calls nm _ w hL hk)
  clear hk
  have FO := Lib.hid (fun w hL => dec_Form.calls nm fm w hL hf)
  clear hf
  have SM := Lib.hid (fun w => alu_small.calls nm x1 x2 d a i s r w hs)
  clear hs
  go_enter_defers Tryd.func10, Tryd.ntmps10
  go_wp2_with (first
    | (go_at_call 16; (with_reducible refine (EN.out _ (hL0.out _ D0.out.bel)).mono ?_); rintro ex w1 ⟨rfl, hb⟩; have D1 := Lib.hid (D0.out.step hb); clear hb; have D := D1.out; have c0 := dblk_cell (j := 0) (v := .string nm) D.box rfl; have c1 := dblk_cell (j := 1) (v := .int .i64 x1) D.box rfl; have c2 := dblk_cell (j := 2) (v := .int .i64 x2) D.box rfl; have c3 := dblk_cell (j := 3) (v := .int .i64 d) D.box rfl; have c4 := dblk_cell (j := 4) (v := .int .i64 a) D.box rfl; have c5 := dblk_cell (j := 5) (v := .int .u32 i) D.box rfl; have e0 := dblk_cell (j := 0) (v := .int .u32 0) D.nb rfl; have f0 := dblk_free (j := 0) D.nb; have e1 := dblk_cell (j := 0) (v := .bool false) D.ob rfl; have f1 := dblk_free (j := 0) D.ob; clear D)
    | (go_at_call 12; (with_reducible refine (KN.out _ (hL0.out _ D1.out.bel)).mono ?_); rintro ex w2 ⟨rfl, hb⟩; clear c0 c1 c2 c3 c4 c5 e0 f0 e1 f1; have D2 := Lib.hid (D1.out.step hb); clear hb; have D := D2.out; have c0 := dblk_cell (j := 0) (v := .string nm) D.box rfl; have c1 := dblk_cell (j := 1) (v := .int .i64 x1) D.box rfl; have c2 := dblk_cell (j := 2) (v := .int .i64 x2) D.box rfl; have c3 := dblk_cell (j := 3) (v := .int .i64 d) D.box rfl; have c4 := dblk_cell (j := 4) (v := .int .i64 a) D.box rfl; have c5 := dblk_cell (j := 5) (v := .int .u32 i) D.box rfl; have e0 := dblk_cell (j := 0) (v := .int .u32 0) D.nb rfl; have f0 := dblk_free (j := 0) D.nb; have e1 := dblk_cell (j := 0) (v := .bool false) D.ob rfl; have f1 := dblk_free (j := 0) D.ob; clear D)
    | (go_at_call 18; (with_reducible refine (FO.out _ (hL0.out _ D2.out.bel)).mono ?_); rintro ex w3 ⟨rfl, hb⟩; clear c0 c1 c2 c3 c4 c5 e0 f0 e1 f1; have D3 := Lib.hid (D2.out.step hb); clear hb; have D := D3.out; have c0 := dblk_cell (j := 0) (v := .string nm) D.box rfl; have c1 := dblk_cell (j := 1) (v := .int .i64 x1) D.box rfl; have c2 := dblk_cell (j := 2) (v := .int .i64 x2) D.box rfl; have c3 := dblk_cell (j := 3) (v := .int .i64 d) D.box rfl; have c4 := dblk_cell (j := 4) (v := .int .i64 a) D.box rfl; have c5 := dblk_cell (j := 5) (v := .int .u32 i) D.box rfl; have e0 := dblk_cell (j := 0) (v := .int .u32 0) D.nb rfl; have f0 := dblk_free (j := 0) D.nb; have e1 := dblk_cell (j := 0) (v := .bool false) D.ob rfl; have f1 := dblk_free (j := 0) D.ob; clear D)
    | (go_at_call 19; (with_reducible refine (SM.out _).mono ?_); rintro ex w4 ⟨rfl, hb⟩; clear c0 c1 c2 c3 c4 c5 e0 f0 e1 f1; have D4 := Lib.hid (D3.out.step hb); clear hb; have D := D4.out; have c0 := dblk_cell (j := 0) (v := .string nm) D.box rfl; have c1 := dblk_cell (j := 1) (v := .int .i64 x1) D.box rfl; have c2 := dblk_cell (j := 2) (v := .int .i64 x2) D.box rfl; have c3 := dblk_cell (j := 3) (v := .int .i64 d) D.box rfl; have c4 := dblk_cell (j := 4) (v := .int .i64 a) D.box rfl; have c5 := dblk_cell (j := 5) (v := .int .u32 i) D.box rfl; have e0 := dblk_cell (j := 0) (v := .int .u32 0) D.nb rfl; have f0 := dblk_free (j := 0) D.nb; have e1 := dblk_cell (j := 0) (v := .bool false) D.ob rfl; have f1 := dblk_free (j := 0) D.ob; clear D))
  refine leaves_cons (f := 17) (args := #[.pointer (some ⟨w.heap.size + 1, 0, none⟩), .pointer (some ⟨w.heap.size + 1 + 1, 0, none⟩)]) (by simp) (by simp [go_sem]) ?_
  refine (do_idle ⟨w.heap.size + 1, 0, none⟩ ⟨w.heap.size + 1 + 1, 0, none⟩ _).mono ?_
  rintro e u' w'' ⟨rfl, rfl, rfl⟩
  simp [Leaves, settle, results, Tryd.results10, go_sem, e0, e1, f0, f1]
  exact (Below.setCell (p := ⟨w.heap.size + 1 + 1, 0, none⟩) (Below.setCell (p := ⟨w.heap.size + 1, 0, none⟩) D4.out.bel (Nat.le_add_right _ 1) _) (Nat.le_add_right _ 2) _)
set_option maxHeartbeats 8000000 in
set_option maxRecDepth 100000 in
theorem do_ti (nm : ByteArray) (x1 x2 d a i s t : Int) (w : World) (hL : Laid w) (r1 : Int) (fm : ByteArray) (he : dec_Encode.f nm x1 x2 d a i = some (r1, true)) (hk : alu_Known.f nm = some true) (hf : dec_Form.f nm = some fm) (g0 : (fm.toList == [116, 115, 105]) = false) (g1 : (fm.toList == [116, 105]) = true) (r : Int) (hs : alu_small.f nm x1 x2 d a i s = some r) :
    Calls Tryd.prog 10 #[.agg #[.string nm, .int .i64 x1, .int .i64 x2, .int .i64 d, .int .i64 a, .int .u32 i], .int .u32 s, .int .u32 t] w fun e w' => e = .returned (.tuple #[.int .u32 r, .bool true]) ∧ Below w.heap.size w w' := by
  have D0 := Lib.hid (DoW.first nm x1 x2 d a i s t w)
  have hL0 := Lib.hid (fun (W : World) (h : Below w.heap.size w W) => hL.below h)
  have hu := Tryd.underlying29
  have hmf : ∀ (fn : Fn) (first cap : Array Value) (w : World), (Instr.makeFunc fn first cap).run Tryd.prog w = .ok (.func fn first cap) w := fun _ _ _ _ => rfl
  have EN := Lib.hid (fun w hL => dec_Encode.calls nm x1 x2 d a i _ _ w hL he)
  clear he
  have KN := Lib.hid (fun w hL => alu_Known.calls nm _ w hL hk)
  clear hk
  have FO := Lib.hid (fun w hL => dec_Form.calls nm fm w hL hf)
  clear hf
  have SM := Lib.hid (fun w => alu_small.calls nm x1 x2 d a i s r w hs)
  clear hs
  go_enter_defers Tryd.func10, Tryd.ntmps10
  go_wp2_with (first
    | (go_at_call 16; (with_reducible refine (EN.out _ (hL0.out _ D0.out.bel)).mono ?_); rintro ex w1 ⟨rfl, hb⟩; have D1 := Lib.hid (D0.out.step hb); clear hb; have D := D1.out; have c0 := dblk_cell (j := 0) (v := .string nm) D.box rfl; have c1 := dblk_cell (j := 1) (v := .int .i64 x1) D.box rfl; have c2 := dblk_cell (j := 2) (v := .int .i64 x2) D.box rfl; have c3 := dblk_cell (j := 3) (v := .int .i64 d) D.box rfl; have c4 := dblk_cell (j := 4) (v := .int .i64 a) D.box rfl; have c5 := dblk_cell (j := 5) (v := .int .u32 i) D.box rfl; have e0 := dblk_cell (j := 0) (v := .int .u32 0) D.nb rfl; have f0 := dblk_free (j := 0) D.nb; have e1 := dblk_cell (j := 0) (v := .bool false) D.ob rfl; have f1 := dblk_free (j := 0) D.ob; clear D)
    | (go_at_call 12; (with_reducible refine (KN.out _ (hL0.out _ D1.out.bel)).mono ?_); rintro ex w2 ⟨rfl, hb⟩; clear c0 c1 c2 c3 c4 c5 e0 f0 e1 f1; have D2 := Lib.hid (D1.out.step hb); clear hb; have D := D2.out; have c0 := dblk_cell (j := 0) (v := .string nm) D.box rfl; have c1 := dblk_cell (j := 1) (v := .int .i64 x1) D.box rfl; have c2 := dblk_cell (j := 2) (v := .int .i64 x2) D.box rfl; have c3 := dblk_cell (j := 3) (v := .int .i64 d) D.box rfl; have c4 := dblk_cell (j := 4) (v := .int .i64 a) D.box rfl; have c5 := dblk_cell (j := 5) (v := .int .u32 i) D.box rfl; have e0 := dblk_cell (j := 0) (v := .int .u32 0) D.nb rfl; have f0 := dblk_free (j := 0) D.nb; have e1 := dblk_cell (j := 0) (v := .bool false) D.ob rfl; have f1 := dblk_free (j := 0) D.ob; clear D)
    | (go_at_call 18; (with_reducible refine (FO.out _ (hL0.out _ D2.out.bel)).mono ?_); rintro ex w3 ⟨rfl, hb⟩; clear c0 c1 c2 c3 c4 c5 e0 f0 e1 f1; have D3 := Lib.hid (D2.out.step hb); clear hb; have D := D3.out; have c0 := dblk_cell (j := 0) (v := .string nm) D.box rfl; have c1 := dblk_cell (j := 1) (v := .int .i64 x1) D.box rfl; have c2 := dblk_cell (j := 2) (v := .int .i64 x2) D.box rfl; have c3 := dblk_cell (j := 3) (v := .int .i64 d) D.box rfl; have c4 := dblk_cell (j := 4) (v := .int .i64 a) D.box rfl; have c5 := dblk_cell (j := 5) (v := .int .u32 i) D.box rfl; have e0 := dblk_cell (j := 0) (v := .int .u32 0) D.nb rfl; have f0 := dblk_free (j := 0) D.nb; have e1 := dblk_cell (j := 0) (v := .bool false) D.ob rfl; have f1 := dblk_free (j := 0) D.ob; clear D)
    | (go_at_call 19; (with_reducible refine (SM.out _).mono ?_); rintro ex w4 ⟨rfl, hb⟩; clear c0 c1 c2 c3 c4 c5 e0 f0 e1 f1; have D4 := Lib.hid (D3.out.step hb); clear hb; have D := D4.out; have c0 := dblk_cell (j := 0) (v := .string nm) D.box rfl; have c1 := dblk_cell (j := 1) (v := .int .i64 x1) D.box rfl; have c2 := dblk_cell (j := 2) (v := .int .i64 x2) D.box rfl; have c3 := dblk_cell (j := 3) (v := .int .i64 d) D.box rfl; have c4 := dblk_cell (j := 4) (v := .int .i64 a) D.box rfl; have c5 := dblk_cell (j := 5) (v := .int .u32 i) D.box rfl; have e0 := dblk_cell (j := 0) (v := .int .u32 0) D.nb rfl; have f0 := dblk_free (j := 0) D.nb; have e1 := dblk_cell (j := 0) (v := .bool false) D.ob rfl; have f1 := dblk_free (j := 0) D.ob; clear D))
  refine leaves_cons (f := 17) (args := #[.pointer (some ⟨w.heap.size + 1, 0, none⟩), .pointer (some ⟨w.heap.size + 1 + 1, 0, none⟩)]) (by simp) (by simp [go_sem]) ?_
  refine (do_idle ⟨w.heap.size + 1, 0, none⟩ ⟨w.heap.size + 1 + 1, 0, none⟩ _).mono ?_
  rintro e u' w'' ⟨rfl, rfl, rfl⟩
  simp [Leaves, settle, results, Tryd.results10, go_sem, e0, e1, f0, f1]
  exact (Below.setCell (p := ⟨w.heap.size + 1 + 1, 0, none⟩) (Below.setCell (p := ⟨w.heap.size + 1, 0, none⟩) D4.out.bel (Nat.le_add_right _ 1) _) (Nat.le_add_right _ 2) _)
set_option maxHeartbeats 8000000 in
set_option maxRecDepth 100000 in
theorem do_dta (nm : ByteArray) (x1 x2 d a i s t : Int) (w : World) (hL : Laid w) (r1 : Int) (fm : ByteArray) (he : dec_Encode.f nm x1 x2 d a i = some (r1, true)) (hk : alu_Known.f nm = some true) (hf : dec_Form.f nm = some fm) (g0 : (fm.toList == [116, 115, 105]) = false) (g1 : (fm.toList == [116, 105]) = false) (g2 : (fm.toList == [100, 116, 97]) = true) (r : Int) (hs : alu_shift.f nm t a = some r) :
    Calls Tryd.prog 10 #[.agg #[.string nm, .int .i64 x1, .int .i64 x2, .int .i64 d, .int .i64 a, .int .u32 i], .int .u32 s, .int .u32 t] w fun e w' => e = .returned (.tuple #[.int .u32 r, .bool true]) ∧ Below w.heap.size w w' := by
  have D0 := Lib.hid (DoW.first nm x1 x2 d a i s t w)
  have hL0 := Lib.hid (fun (W : World) (h : Below w.heap.size w W) => hL.below h)
  have hu := Tryd.underlying29
  have hmf : ∀ (fn : Fn) (first cap : Array Value) (w : World), (Instr.makeFunc fn first cap).run Tryd.prog w = .ok (.func fn first cap) w := fun _ _ _ _ => rfl
  have EN := Lib.hid (fun w hL => dec_Encode.calls nm x1 x2 d a i _ _ w hL he)
  clear he
  have KN := Lib.hid (fun w hL => alu_Known.calls nm _ w hL hk)
  clear hk
  have FO := Lib.hid (fun w hL => dec_Form.calls nm fm w hL hf)
  clear hf
  have SH := Lib.hid (fun w => alu_shift.calls nm t a r w hs)
  clear hs
  go_enter_defers Tryd.func10, Tryd.ntmps10
  go_wp2_with (first
    | (go_at_call 16; (with_reducible refine (EN.out _ (hL0.out _ D0.out.bel)).mono ?_); rintro ex w1 ⟨rfl, hb⟩; have D1 := Lib.hid (D0.out.step hb); clear hb; have D := D1.out; have c0 := dblk_cell (j := 0) (v := .string nm) D.box rfl; have c1 := dblk_cell (j := 1) (v := .int .i64 x1) D.box rfl; have c2 := dblk_cell (j := 2) (v := .int .i64 x2) D.box rfl; have c3 := dblk_cell (j := 3) (v := .int .i64 d) D.box rfl; have c4 := dblk_cell (j := 4) (v := .int .i64 a) D.box rfl; have c5 := dblk_cell (j := 5) (v := .int .u32 i) D.box rfl; have e0 := dblk_cell (j := 0) (v := .int .u32 0) D.nb rfl; have f0 := dblk_free (j := 0) D.nb; have e1 := dblk_cell (j := 0) (v := .bool false) D.ob rfl; have f1 := dblk_free (j := 0) D.ob; clear D)
    | (go_at_call 12; (with_reducible refine (KN.out _ (hL0.out _ D1.out.bel)).mono ?_); rintro ex w2 ⟨rfl, hb⟩; clear c0 c1 c2 c3 c4 c5 e0 f0 e1 f1; have D2 := Lib.hid (D1.out.step hb); clear hb; have D := D2.out; have c0 := dblk_cell (j := 0) (v := .string nm) D.box rfl; have c1 := dblk_cell (j := 1) (v := .int .i64 x1) D.box rfl; have c2 := dblk_cell (j := 2) (v := .int .i64 x2) D.box rfl; have c3 := dblk_cell (j := 3) (v := .int .i64 d) D.box rfl; have c4 := dblk_cell (j := 4) (v := .int .i64 a) D.box rfl; have c5 := dblk_cell (j := 5) (v := .int .u32 i) D.box rfl; have e0 := dblk_cell (j := 0) (v := .int .u32 0) D.nb rfl; have f0 := dblk_free (j := 0) D.nb; have e1 := dblk_cell (j := 0) (v := .bool false) D.ob rfl; have f1 := dblk_free (j := 0) D.ob; clear D)
    | (go_at_call 18; (with_reducible refine (FO.out _ (hL0.out _ D2.out.bel)).mono ?_); rintro ex w3 ⟨rfl, hb⟩; clear c0 c1 c2 c3 c4 c5 e0 f0 e1 f1; have D3 := Lib.hid (D2.out.step hb); clear hb; have D := D3.out; have c0 := dblk_cell (j := 0) (v := .string nm) D.box rfl; have c1 := dblk_cell (j := 1) (v := .int .i64 x1) D.box rfl; have c2 := dblk_cell (j := 2) (v := .int .i64 x2) D.box rfl; have c3 := dblk_cell (j := 3) (v := .int .i64 d) D.box rfl; have c4 := dblk_cell (j := 4) (v := .int .i64 a) D.box rfl; have c5 := dblk_cell (j := 5) (v := .int .u32 i) D.box rfl; have e0 := dblk_cell (j := 0) (v := .int .u32 0) D.nb rfl; have f0 := dblk_free (j := 0) D.nb; have e1 := dblk_cell (j := 0) (v := .bool false) D.ob rfl; have f1 := dblk_free (j := 0) D.ob; clear D)
    | (go_at_call 20; (with_reducible refine (SH.out _).mono ?_); rintro ex w4 ⟨rfl, hd⟩; have hb := Drawn0.below hd; clear hd; clear c0 c1 c2 c3 c4 c5 e0 f0 e1 f1; have D4 := Lib.hid (D3.out.step hb); clear hb; have D := D4.out; have c0 := dblk_cell (j := 0) (v := .string nm) D.box rfl; have c1 := dblk_cell (j := 1) (v := .int .i64 x1) D.box rfl; have c2 := dblk_cell (j := 2) (v := .int .i64 x2) D.box rfl; have c3 := dblk_cell (j := 3) (v := .int .i64 d) D.box rfl; have c4 := dblk_cell (j := 4) (v := .int .i64 a) D.box rfl; have c5 := dblk_cell (j := 5) (v := .int .u32 i) D.box rfl; have e0 := dblk_cell (j := 0) (v := .int .u32 0) D.nb rfl; have f0 := dblk_free (j := 0) D.nb; have e1 := dblk_cell (j := 0) (v := .bool false) D.ob rfl; have f1 := dblk_free (j := 0) D.ob; clear D))
  refine leaves_cons (f := 17) (args := #[.pointer (some ⟨w.heap.size + 1, 0, none⟩), .pointer (some ⟨w.heap.size + 1 + 1, 0, none⟩)]) (by simp) (by simp [go_sem]) ?_
  refine (do_idle ⟨w.heap.size + 1, 0, none⟩ ⟨w.heap.size + 1 + 1, 0, none⟩ _).mono ?_
  rintro e u' w'' ⟨rfl, rfl, rfl⟩
  simp [Leaves, settle, results, Tryd.results10, go_sem, e0, e1, f0, f1]
  exact (Below.setCell (p := ⟨w.heap.size + 1 + 1, 0, none⟩) (Below.setCell (p := ⟨w.heap.size + 1, 0, none⟩) D4.out.bel (Nat.le_add_right _ 1) _) (Nat.le_add_right _ 2) _)
set_option maxHeartbeats 8000000 in
set_option maxRecDepth 100000 in
theorem do_dtr (nm : ByteArray) (x1 x2 d a i s t : Int) (w : World) (hL : Laid w) (r1 : Int) (fm : ByteArray) (he : dec_Encode.f nm x1 x2 d a i = some (r1, true)) (hk : alu_Known.f nm = some true) (hf : dec_Form.f nm = some fm) (g0 : (fm.toList == [116, 115, 105]) = false) (g1 : (fm.toList == [116, 105]) = false) (g2 : (fm.toList == [100, 116, 97]) = false) (g3 : (fm.toList == [100, 116, 114]) = true) (r : Int) (hs : alu_shift.f nm t a = some r) :
    Calls Tryd.prog 10 #[.agg #[.string nm, .int .i64 x1, .int .i64 x2, .int .i64 d, .int .i64 a, .int .u32 i], .int .u32 s, .int .u32 t] w fun e w' => e = .returned (.tuple #[.int .u32 r, .bool true]) ∧ Below w.heap.size w w' := by
  have D0 := Lib.hid (DoW.first nm x1 x2 d a i s t w)
  have hL0 := Lib.hid (fun (W : World) (h : Below w.heap.size w W) => hL.below h)
  have hu := Tryd.underlying29
  have hmf : ∀ (fn : Fn) (first cap : Array Value) (w : World), (Instr.makeFunc fn first cap).run Tryd.prog w = .ok (.func fn first cap) w := fun _ _ _ _ => rfl
  have EN := Lib.hid (fun w hL => dec_Encode.calls nm x1 x2 d a i _ _ w hL he)
  clear he
  have KN := Lib.hid (fun w hL => alu_Known.calls nm _ w hL hk)
  clear hk
  have FO := Lib.hid (fun w hL => dec_Form.calls nm fm w hL hf)
  clear hf
  have SH := Lib.hid (fun w => alu_shift.calls nm t a r w hs)
  clear hs
  go_enter_defers Tryd.func10, Tryd.ntmps10
  go_wp2_with (first
    | (go_at_call 16; (with_reducible refine (EN.out _ (hL0.out _ D0.out.bel)).mono ?_); rintro ex w1 ⟨rfl, hb⟩; have D1 := Lib.hid (D0.out.step hb); clear hb; have D := D1.out; have c0 := dblk_cell (j := 0) (v := .string nm) D.box rfl; have c1 := dblk_cell (j := 1) (v := .int .i64 x1) D.box rfl; have c2 := dblk_cell (j := 2) (v := .int .i64 x2) D.box rfl; have c3 := dblk_cell (j := 3) (v := .int .i64 d) D.box rfl; have c4 := dblk_cell (j := 4) (v := .int .i64 a) D.box rfl; have c5 := dblk_cell (j := 5) (v := .int .u32 i) D.box rfl; have e0 := dblk_cell (j := 0) (v := .int .u32 0) D.nb rfl; have f0 := dblk_free (j := 0) D.nb; have e1 := dblk_cell (j := 0) (v := .bool false) D.ob rfl; have f1 := dblk_free (j := 0) D.ob; clear D)
    | (go_at_call 12; (with_reducible refine (KN.out _ (hL0.out _ D1.out.bel)).mono ?_); rintro ex w2 ⟨rfl, hb⟩; clear c0 c1 c2 c3 c4 c5 e0 f0 e1 f1; have D2 := Lib.hid (D1.out.step hb); clear hb; have D := D2.out; have c0 := dblk_cell (j := 0) (v := .string nm) D.box rfl; have c1 := dblk_cell (j := 1) (v := .int .i64 x1) D.box rfl; have c2 := dblk_cell (j := 2) (v := .int .i64 x2) D.box rfl; have c3 := dblk_cell (j := 3) (v := .int .i64 d) D.box rfl; have c4 := dblk_cell (j := 4) (v := .int .i64 a) D.box rfl; have c5 := dblk_cell (j := 5) (v := .int .u32 i) D.box rfl; have e0 := dblk_cell (j := 0) (v := .int .u32 0) D.nb rfl; have f0 := dblk_free (j := 0) D.nb; have e1 := dblk_cell (j := 0) (v := .bool false) D.ob rfl; have f1 := dblk_free (j := 0) D.ob; clear D)
    | (go_at_call 18; (with_reducible refine (FO.out _ (hL0.out _ D2.out.bel)).mono ?_); rintro ex w3 ⟨rfl, hb⟩; clear c0 c1 c2 c3 c4 c5 e0 f0 e1 f1; have D3 := Lib.hid (D2.out.step hb); clear hb; have D := D3.out; have c0 := dblk_cell (j := 0) (v := .string nm) D.box rfl; have c1 := dblk_cell (j := 1) (v := .int .i64 x1) D.box rfl; have c2 := dblk_cell (j := 2) (v := .int .i64 x2) D.box rfl; have c3 := dblk_cell (j := 3) (v := .int .i64 d) D.box rfl; have c4 := dblk_cell (j := 4) (v := .int .i64 a) D.box rfl; have c5 := dblk_cell (j := 5) (v := .int .u32 i) D.box rfl; have e0 := dblk_cell (j := 0) (v := .int .u32 0) D.nb rfl; have f0 := dblk_free (j := 0) D.nb; have e1 := dblk_cell (j := 0) (v := .bool false) D.ob rfl; have f1 := dblk_free (j := 0) D.ob; clear D)
    | (go_at_call 20; (with_reducible refine (SH.out _).mono ?_); rintro ex w4 ⟨rfl, hd⟩; have hb := Drawn0.below hd; clear hd; clear c0 c1 c2 c3 c4 c5 e0 f0 e1 f1; have D4 := Lib.hid (D3.out.step hb); clear hb; have D := D4.out; have c0 := dblk_cell (j := 0) (v := .string nm) D.box rfl; have c1 := dblk_cell (j := 1) (v := .int .i64 x1) D.box rfl; have c2 := dblk_cell (j := 2) (v := .int .i64 x2) D.box rfl; have c3 := dblk_cell (j := 3) (v := .int .i64 d) D.box rfl; have c4 := dblk_cell (j := 4) (v := .int .i64 a) D.box rfl; have c5 := dblk_cell (j := 5) (v := .int .u32 i) D.box rfl; have e0 := dblk_cell (j := 0) (v := .int .u32 0) D.nb rfl; have f0 := dblk_free (j := 0) D.nb; have e1 := dblk_cell (j := 0) (v := .bool false) D.ob rfl; have f1 := dblk_free (j := 0) D.ob; clear D))
  refine leaves_cons (f := 17) (args := #[.pointer (some ⟨w.heap.size + 1, 0, none⟩), .pointer (some ⟨w.heap.size + 1 + 1, 0, none⟩)]) (by simp) (by simp [go_sem]) ?_
  refine (do_idle ⟨w.heap.size + 1, 0, none⟩ ⟨w.heap.size + 1 + 1, 0, none⟩ _).mono ?_
  rintro e u' w'' ⟨rfl, rfl, rfl⟩
  simp [Leaves, settle, results, Tryd.results10, go_sem, e0, e1, f0, f1]
  exact (Below.setCell (p := ⟨w.heap.size + 1 + 1, 0, none⟩) (Below.setCell (p := ⟨w.heap.size + 1, 0, none⟩) D4.out.bel (Nat.le_add_right _ 1) _) (Nat.le_add_right _ 2) _)
set_option maxHeartbeats 8000000 in
set_option maxRecDepth 100000 in
theorem do_dts (nm : ByteArray) (x1 x2 d a i s t : Int) (w : World) (hL : Laid w) (r1 : Int) (fm : ByteArray) (he : dec_Encode.f nm x1 x2 d a i = some (r1, true)) (hk : alu_Known.f nm = some true) (hf : dec_Form.f nm = some fm) (g0 : (fm.toList == [116, 115, 105]) = false) (g1 : (fm.toList == [116, 105]) = false) (g2 : (fm.toList == [100, 116, 97]) = false) (g3 : (fm.toList == [100, 116, 114]) = false) (g4 : (fm.toList == [100, 116, 115]) = true) (r : Int) (hs : alu_shift.f nm t (wrap64 (bits .and .u32 s 31)) = some r) :
    Calls Tryd.prog 10 #[.agg #[.string nm, .int .i64 x1, .int .i64 x2, .int .i64 d, .int .i64 a, .int .u32 i], .int .u32 s, .int .u32 t] w fun e w' => e = .returned (.tuple #[.int .u32 r, .bool true]) ∧ Below w.heap.size w w' := by
  have D0 := Lib.hid (DoW.first nm x1 x2 d a i s t w)
  have hL0 := Lib.hid (fun (W : World) (h : Below w.heap.size w W) => hL.below h)
  have hu := Tryd.underlying29
  have hmf : ∀ (fn : Fn) (first cap : Array Value) (w : World), (Instr.makeFunc fn first cap).run Tryd.prog w = .ok (.func fn first cap) w := fun _ _ _ _ => rfl
  have EN := Lib.hid (fun w hL => dec_Encode.calls nm x1 x2 d a i _ _ w hL he)
  clear he
  have KN := Lib.hid (fun w hL => alu_Known.calls nm _ w hL hk)
  clear hk
  have FO := Lib.hid (fun w hL => dec_Form.calls nm fm w hL hf)
  clear hf
  have SH := Lib.hid (fun w => alu_shift.calls nm t _ r w hs)
  clear hs
  go_enter_defers Tryd.func10, Tryd.ntmps10
  go_wp2_with (first
    | (go_at_call 16; (with_reducible refine (EN.out _ (hL0.out _ D0.out.bel)).mono ?_); rintro ex w1 ⟨rfl, hb⟩; have D1 := Lib.hid (D0.out.step hb); clear hb; have D := D1.out; have c0 := dblk_cell (j := 0) (v := .string nm) D.box rfl; have c1 := dblk_cell (j := 1) (v := .int .i64 x1) D.box rfl; have c2 := dblk_cell (j := 2) (v := .int .i64 x2) D.box rfl; have c3 := dblk_cell (j := 3) (v := .int .i64 d) D.box rfl; have c4 := dblk_cell (j := 4) (v := .int .i64 a) D.box rfl; have c5 := dblk_cell (j := 5) (v := .int .u32 i) D.box rfl; have e0 := dblk_cell (j := 0) (v := .int .u32 0) D.nb rfl; have f0 := dblk_free (j := 0) D.nb; have e1 := dblk_cell (j := 0) (v := .bool false) D.ob rfl; have f1 := dblk_free (j := 0) D.ob; clear D)
    | (go_at_call 12; (with_reducible refine (KN.out _ (hL0.out _ D1.out.bel)).mono ?_); rintro ex w2 ⟨rfl, hb⟩; clear c0 c1 c2 c3 c4 c5 e0 f0 e1 f1; have D2 := Lib.hid (D1.out.step hb); clear hb; have D := D2.out; have c0 := dblk_cell (j := 0) (v := .string nm) D.box rfl; have c1 := dblk_cell (j := 1) (v := .int .i64 x1) D.box rfl; have c2 := dblk_cell (j := 2) (v := .int .i64 x2) D.box rfl; have c3 := dblk_cell (j := 3) (v := .int .i64 d) D.box rfl; have c4 := dblk_cell (j := 4) (v := .int .i64 a) D.box rfl; have c5 := dblk_cell (j := 5) (v := .int .u32 i) D.box rfl; have e0 := dblk_cell (j := 0) (v := .int .u32 0) D.nb rfl; have f0 := dblk_free (j := 0) D.nb; have e1 := dblk_cell (j := 0) (v := .bool false) D.ob rfl; have f1 := dblk_free (j := 0) D.ob; clear D)
    | (go_at_call 18; (with_reducible refine (FO.out _ (hL0.out _ D2.out.bel)).mono ?_); rintro ex w3 ⟨rfl, hb⟩; clear c0 c1 c2 c3 c4 c5 e0 f0 e1 f1; have D3 := Lib.hid (D2.out.step hb); clear hb; have D := D3.out; have c0 := dblk_cell (j := 0) (v := .string nm) D.box rfl; have c1 := dblk_cell (j := 1) (v := .int .i64 x1) D.box rfl; have c2 := dblk_cell (j := 2) (v := .int .i64 x2) D.box rfl; have c3 := dblk_cell (j := 3) (v := .int .i64 d) D.box rfl; have c4 := dblk_cell (j := 4) (v := .int .i64 a) D.box rfl; have c5 := dblk_cell (j := 5) (v := .int .u32 i) D.box rfl; have e0 := dblk_cell (j := 0) (v := .int .u32 0) D.nb rfl; have f0 := dblk_free (j := 0) D.nb; have e1 := dblk_cell (j := 0) (v := .bool false) D.ob rfl; have f1 := dblk_free (j := 0) D.ob; clear D)
    | (go_at_call 20; (with_reducible refine (SH.out _).mono ?_); rintro ex w4 ⟨rfl, hd⟩; have hb := Drawn0.below hd; clear hd; clear c0 c1 c2 c3 c4 c5 e0 f0 e1 f1; have D4 := Lib.hid (D3.out.step hb); clear hb; have D := D4.out; have c0 := dblk_cell (j := 0) (v := .string nm) D.box rfl; have c1 := dblk_cell (j := 1) (v := .int .i64 x1) D.box rfl; have c2 := dblk_cell (j := 2) (v := .int .i64 x2) D.box rfl; have c3 := dblk_cell (j := 3) (v := .int .i64 d) D.box rfl; have c4 := dblk_cell (j := 4) (v := .int .i64 a) D.box rfl; have c5 := dblk_cell (j := 5) (v := .int .u32 i) D.box rfl; have e0 := dblk_cell (j := 0) (v := .int .u32 0) D.nb rfl; have f0 := dblk_free (j := 0) D.nb; have e1 := dblk_cell (j := 0) (v := .bool false) D.ob rfl; have f1 := dblk_free (j := 0) D.ob; clear D))
  refine leaves_cons (f := 17) (args := #[.pointer (some ⟨w.heap.size + 1, 0, none⟩), .pointer (some ⟨w.heap.size + 1 + 1, 0, none⟩)]) (by simp) (by simp [go_sem]) ?_
  refine (do_idle ⟨w.heap.size + 1, 0, none⟩ ⟨w.heap.size + 1 + 1, 0, none⟩ _).mono ?_
  rintro e u' w'' ⟨rfl, rfl, rfl⟩
  simp [Leaves, settle, results, Tryd.results10, go_sem, e0, e1, f0, f1]
  exact (Below.setCell (p := ⟨w.heap.size + 1 + 1, 0, none⟩) (Below.setCell (p := ⟨w.heap.size + 1, 0, none⟩) D4.out.bel (Nat.le_add_right _ 1) _) (Nat.le_add_right _ 2) _)
set_option maxHeartbeats 8000000 in
set_option maxRecDepth 100000 in
theorem do_dtv (nm : ByteArray) (x1 x2 d a i s t : Int) (w : World) (hL : Laid w) (r1 : Int) (fm : ByteArray) (he : dec_Encode.f nm x1 x2 d a i = some (r1, true)) (hk : alu_Known.f nm = some true) (hf : dec_Form.f nm = some fm) (g0 : (fm.toList == [116, 115, 105]) = false) (g1 : (fm.toList == [116, 105]) = false) (g2 : (fm.toList == [100, 116, 97]) = false) (g3 : (fm.toList == [100, 116, 114]) = false) (g4 : (fm.toList == [100, 116, 115]) = false) (g5 : (fm.toList == [100, 116, 118]) = true) (r : Int) (hs : alu_shift.f nm t (wrap64 (bits .and .u32 s 31)) = some r) :
    Calls Tryd.prog 10 #[.agg #[.string nm, .int .i64 x1, .int .i64 x2, .int .i64 d, .int .i64 a, .int .u32 i], .int .u32 s, .int .u32 t] w fun e w' => e = .returned (.tuple #[.int .u32 r, .bool true]) ∧ Below w.heap.size w w' := by
  have D0 := Lib.hid (DoW.first nm x1 x2 d a i s t w)
  have hL0 := Lib.hid (fun (W : World) (h : Below w.heap.size w W) => hL.below h)
  have hu := Tryd.underlying29
  have hmf : ∀ (fn : Fn) (first cap : Array Value) (w : World), (Instr.makeFunc fn first cap).run Tryd.prog w = .ok (.func fn first cap) w := fun _ _ _ _ => rfl
  have EN := Lib.hid (fun w hL => dec_Encode.calls nm x1 x2 d a i _ _ w hL he)
  clear he
  have KN := Lib.hid (fun w hL => alu_Known.calls nm _ w hL hk)
  clear hk
  have FO := Lib.hid (fun w hL => dec_Form.calls nm fm w hL hf)
  clear hf
  have SH := Lib.hid (fun w => alu_shift.calls nm t _ r w hs)
  clear hs
  go_enter_defers Tryd.func10, Tryd.ntmps10
  go_wp2_with (first
    | (go_at_call 16; (with_reducible refine (EN.out _ (hL0.out _ D0.out.bel)).mono ?_); rintro ex w1 ⟨rfl, hb⟩; have D1 := Lib.hid (D0.out.step hb); clear hb; have D := D1.out; have c0 := dblk_cell (j := 0) (v := .string nm) D.box rfl; have c1 := dblk_cell (j := 1) (v := .int .i64 x1) D.box rfl; have c2 := dblk_cell (j := 2) (v := .int .i64 x2) D.box rfl; have c3 := dblk_cell (j := 3) (v := .int .i64 d) D.box rfl; have c4 := dblk_cell (j := 4) (v := .int .i64 a) D.box rfl; have c5 := dblk_cell (j := 5) (v := .int .u32 i) D.box rfl; have e0 := dblk_cell (j := 0) (v := .int .u32 0) D.nb rfl; have f0 := dblk_free (j := 0) D.nb; have e1 := dblk_cell (j := 0) (v := .bool false) D.ob rfl; have f1 := dblk_free (j := 0) D.ob; clear D)
    | (go_at_call 12; (with_reducible refine (KN.out _ (hL0.out _ D1.out.bel)).mono ?_); rintro ex w2 ⟨rfl, hb⟩; clear c0 c1 c2 c3 c4 c5 e0 f0 e1 f1; have D2 := Lib.hid (D1.out.step hb); clear hb; have D := D2.out; have c0 := dblk_cell (j := 0) (v := .string nm) D.box rfl; have c1 := dblk_cell (j := 1) (v := .int .i64 x1) D.box rfl; have c2 := dblk_cell (j := 2) (v := .int .i64 x2) D.box rfl; have c3 := dblk_cell (j := 3) (v := .int .i64 d) D.box rfl; have c4 := dblk_cell (j := 4) (v := .int .i64 a) D.box rfl; have c5 := dblk_cell (j := 5) (v := .int .u32 i) D.box rfl; have e0 := dblk_cell (j := 0) (v := .int .u32 0) D.nb rfl; have f0 := dblk_free (j := 0) D.nb; have e1 := dblk_cell (j := 0) (v := .bool false) D.ob rfl; have f1 := dblk_free (j := 0) D.ob; clear D)
    | (go_at_call 18; (with_reducible refine (FO.out _ (hL0.out _ D2.out.bel)).mono ?_); rintro ex w3 ⟨rfl, hb⟩; clear c0 c1 c2 c3 c4 c5 e0 f0 e1 f1; have D3 := Lib.hid (D2.out.step hb); clear hb; have D := D3.out; have c0 := dblk_cell (j := 0) (v := .string nm) D.box rfl; have c1 := dblk_cell (j := 1) (v := .int .i64 x1) D.box rfl; have c2 := dblk_cell (j := 2) (v := .int .i64 x2) D.box rfl; have c3 := dblk_cell (j := 3) (v := .int .i64 d) D.box rfl; have c4 := dblk_cell (j := 4) (v := .int .i64 a) D.box rfl; have c5 := dblk_cell (j := 5) (v := .int .u32 i) D.box rfl; have e0 := dblk_cell (j := 0) (v := .int .u32 0) D.nb rfl; have f0 := dblk_free (j := 0) D.nb; have e1 := dblk_cell (j := 0) (v := .bool false) D.ob rfl; have f1 := dblk_free (j := 0) D.ob; clear D)
    | (go_at_call 20; (with_reducible refine (SH.out _).mono ?_); rintro ex w4 ⟨rfl, hd⟩; have hb := Drawn0.below hd; clear hd; clear c0 c1 c2 c3 c4 c5 e0 f0 e1 f1; have D4 := Lib.hid (D3.out.step hb); clear hb; have D := D4.out; have c0 := dblk_cell (j := 0) (v := .string nm) D.box rfl; have c1 := dblk_cell (j := 1) (v := .int .i64 x1) D.box rfl; have c2 := dblk_cell (j := 2) (v := .int .i64 x2) D.box rfl; have c3 := dblk_cell (j := 3) (v := .int .i64 d) D.box rfl; have c4 := dblk_cell (j := 4) (v := .int .i64 a) D.box rfl; have c5 := dblk_cell (j := 5) (v := .int .u32 i) D.box rfl; have e0 := dblk_cell (j := 0) (v := .int .u32 0) D.nb rfl; have f0 := dblk_free (j := 0) D.nb; have e1 := dblk_cell (j := 0) (v := .bool false) D.ob rfl; have f1 := dblk_free (j := 0) D.ob; clear D))
  refine leaves_cons (f := 17) (args := #[.pointer (some ⟨w.heap.size + 1, 0, none⟩), .pointer (some ⟨w.heap.size + 1 + 1, 0, none⟩)]) (by simp) (by simp [go_sem]) ?_
  refine (do_idle ⟨w.heap.size + 1, 0, none⟩ ⟨w.heap.size + 1 + 1, 0, none⟩ _).mono ?_
  rintro e u' w'' ⟨rfl, rfl, rfl⟩
  simp [Leaves, settle, results, Tryd.results10, go_sem, e0, e1, f0, f1]
  exact (Below.setCell (p := ⟨w.heap.size + 1 + 1, 0, none⟩) (Below.setCell (p := ⟨w.heap.size + 1, 0, none⟩) D4.out.bel (Nat.le_add_right _ 1) _) (Nat.le_add_right _ 2) _)
set_option maxHeartbeats 8000000 in
set_option maxRecDepth 100000 in
theorem do_both (nm : ByteArray) (x1 x2 d a i s t : Int) (w : World) (hL : Laid w) (r1 : Int) (fm : ByteArray) (he : dec_Encode.f nm x1 x2 d a i = some (r1, true)) (hk : alu_Known.f nm = some true) (hf : dec_Form.f nm = some fm) (g0 : (fm.toList == [116, 115, 105]) = false) (g1 : (fm.toList == [116, 105]) = false) (g2 : (fm.toList == [100, 116, 97]) = false) (g3 : (fm.toList == [100, 116, 114]) = false) (g4 : (fm.toList == [100, 116, 115]) = false) (g5 : (fm.toList == [100, 116, 118]) = false) (r : Int) (hs : alu_both.f nm x1 x2 d a i s t = some r) :
    Calls Tryd.prog 10 #[.agg #[.string nm, .int .i64 x1, .int .i64 x2, .int .i64 d, .int .i64 a, .int .u32 i], .int .u32 s, .int .u32 t] w fun e w' => e = .returned (.tuple #[.int .u32 r, .bool true]) ∧ Below w.heap.size w w' := by
  have D0 := Lib.hid (DoW.first nm x1 x2 d a i s t w)
  have hL0 := Lib.hid (fun (W : World) (h : Below w.heap.size w W) => hL.below h)
  have hu := Tryd.underlying29
  have hmf : ∀ (fn : Fn) (first cap : Array Value) (w : World), (Instr.makeFunc fn first cap).run Tryd.prog w = .ok (.func fn first cap) w := fun _ _ _ _ => rfl
  have EN := Lib.hid (fun w hL => dec_Encode.calls nm x1 x2 d a i _ _ w hL he)
  clear he
  have KN := Lib.hid (fun w hL => alu_Known.calls nm _ w hL hk)
  clear hk
  have FO := Lib.hid (fun w hL => dec_Form.calls nm fm w hL hf)
  clear hf
  have BO := Lib.hid (fun w => alu_both.calls nm x1 x2 d a i s t r w hs)
  clear hs
  go_enter_defers Tryd.func10, Tryd.ntmps10
  go_wp2_with (first
    | (go_at_call 16; (with_reducible refine (EN.out _ (hL0.out _ D0.out.bel)).mono ?_); rintro ex w1 ⟨rfl, hb⟩; have D1 := Lib.hid (D0.out.step hb); clear hb; have D := D1.out; have c0 := dblk_cell (j := 0) (v := .string nm) D.box rfl; have c1 := dblk_cell (j := 1) (v := .int .i64 x1) D.box rfl; have c2 := dblk_cell (j := 2) (v := .int .i64 x2) D.box rfl; have c3 := dblk_cell (j := 3) (v := .int .i64 d) D.box rfl; have c4 := dblk_cell (j := 4) (v := .int .i64 a) D.box rfl; have c5 := dblk_cell (j := 5) (v := .int .u32 i) D.box rfl; have e0 := dblk_cell (j := 0) (v := .int .u32 0) D.nb rfl; have f0 := dblk_free (j := 0) D.nb; have e1 := dblk_cell (j := 0) (v := .bool false) D.ob rfl; have f1 := dblk_free (j := 0) D.ob; clear D)
    | (go_at_call 12; (with_reducible refine (KN.out _ (hL0.out _ D1.out.bel)).mono ?_); rintro ex w2 ⟨rfl, hb⟩; clear c0 c1 c2 c3 c4 c5 e0 f0 e1 f1; have D2 := Lib.hid (D1.out.step hb); clear hb; have D := D2.out; have c0 := dblk_cell (j := 0) (v := .string nm) D.box rfl; have c1 := dblk_cell (j := 1) (v := .int .i64 x1) D.box rfl; have c2 := dblk_cell (j := 2) (v := .int .i64 x2) D.box rfl; have c3 := dblk_cell (j := 3) (v := .int .i64 d) D.box rfl; have c4 := dblk_cell (j := 4) (v := .int .i64 a) D.box rfl; have c5 := dblk_cell (j := 5) (v := .int .u32 i) D.box rfl; have e0 := dblk_cell (j := 0) (v := .int .u32 0) D.nb rfl; have f0 := dblk_free (j := 0) D.nb; have e1 := dblk_cell (j := 0) (v := .bool false) D.ob rfl; have f1 := dblk_free (j := 0) D.ob; clear D)
    | (go_at_call 18; (with_reducible refine (FO.out _ (hL0.out _ D2.out.bel)).mono ?_); rintro ex w3 ⟨rfl, hb⟩; clear c0 c1 c2 c3 c4 c5 e0 f0 e1 f1; have D3 := Lib.hid (D2.out.step hb); clear hb; have D := D3.out; have c0 := dblk_cell (j := 0) (v := .string nm) D.box rfl; have c1 := dblk_cell (j := 1) (v := .int .i64 x1) D.box rfl; have c2 := dblk_cell (j := 2) (v := .int .i64 x2) D.box rfl; have c3 := dblk_cell (j := 3) (v := .int .i64 d) D.box rfl; have c4 := dblk_cell (j := 4) (v := .int .i64 a) D.box rfl; have c5 := dblk_cell (j := 5) (v := .int .u32 i) D.box rfl; have e0 := dblk_cell (j := 0) (v := .int .u32 0) D.nb rfl; have f0 := dblk_free (j := 0) D.nb; have e1 := dblk_cell (j := 0) (v := .bool false) D.ob rfl; have f1 := dblk_free (j := 0) D.ob; clear D)
    | (go_at_call 21; (with_reducible refine (BO.out _).mono ?_); rintro ex w4 ⟨rfl, hb⟩; clear c0 c1 c2 c3 c4 c5 e0 f0 e1 f1; have D4 := Lib.hid (D3.out.step hb); clear hb; have D := D4.out; have c0 := dblk_cell (j := 0) (v := .string nm) D.box rfl; have c1 := dblk_cell (j := 1) (v := .int .i64 x1) D.box rfl; have c2 := dblk_cell (j := 2) (v := .int .i64 x2) D.box rfl; have c3 := dblk_cell (j := 3) (v := .int .i64 d) D.box rfl; have c4 := dblk_cell (j := 4) (v := .int .i64 a) D.box rfl; have c5 := dblk_cell (j := 5) (v := .int .u32 i) D.box rfl; have e0 := dblk_cell (j := 0) (v := .int .u32 0) D.nb rfl; have f0 := dblk_free (j := 0) D.nb; have e1 := dblk_cell (j := 0) (v := .bool false) D.ob rfl; have f1 := dblk_free (j := 0) D.ob; clear D))
  refine leaves_cons (f := 17) (args := #[.pointer (some ⟨w.heap.size + 1, 0, none⟩), .pointer (some ⟨w.heap.size + 1 + 1, 0, none⟩)]) (by simp) (by simp [go_sem]) ?_
  refine (do_idle ⟨w.heap.size + 1, 0, none⟩ ⟨w.heap.size + 1 + 1, 0, none⟩ _).mono ?_
  rintro e u' w'' ⟨rfl, rfl, rfl⟩
  simp [Leaves, settle, results, Tryd.results10, go_sem, e0, e1, f0, f1]
  exact (Below.setCell (p := ⟨w.heap.size + 1 + 1, 0, none⟩) (Below.setCell (p := ⟨w.heap.size + 1, 0, none⟩) D4.out.bel (Nat.le_add_right _ 1) _) (Nat.le_add_right _ 2) _)
set_option maxHeartbeats 8000000 in
set_option maxRecDepth 100000 in
theorem do_over_addi (nm : ByteArray) (x1 x2 d a i s t : Int) (w : World) (hL : Laid w) (r1 : Int) (fm : ByteArray) (he : dec_Encode.f nm x1 x2 d a i = some (r1, true)) (hk : alu_Known.f nm = some true) (hf : dec_Form.f nm = some fm) (g0 : (fm.toList == [116, 115, 105]) = true) (v : Int) (y : (nm.toList == [97, 100, 100, 105]) = true) (hv : swap_Sext.f i 16 = some v) (ho : sumOver s v = true) :
    Calls Tryd.prog 10 #[.agg #[.string nm, .int .i64 x1, .int .i64 x2, .int .i64 d, .int .i64 a, .int .u32 i], .int .u32 s, .int .u32 t] w fun e w' => e = .returned (.tuple #[.int .u32 0, .bool false]) ∧ Below w.heap.size w w' := by
  have D0 := Lib.hid (DoW.first nm x1 x2 d a i s t w)
  have hL0 := Lib.hid (fun (W : World) (h : Below w.heap.size w W) => hL.below h)
  have hu := Tryd.underlying29
  have hmf : ∀ (fn : Fn) (first cap : Array Value) (w : World), (Instr.makeFunc fn first cap).run Tryd.prog w = .ok (.func fn first cap) w := fun _ _ _ _ => rfl
  have EN := Lib.hid (fun w hL => dec_Encode.calls nm x1 x2 d a i _ _ w hL he)
  clear he
  have KN := Lib.hid (fun w hL => alu_Known.calls nm _ w hL hk)
  clear hk
  have FO := Lib.hid (fun w hL => dec_Form.calls nm fm w hL hf)
  clear hf
  have SM := Lib.hid (fun w => alu_small.throws nm x1 x2 d a i s v w y hv ho)
  clear hv ho
  go_enter_defers Tryd.func10, Tryd.ntmps10
  go_wp2_with (first
    | (go_at_call 16; (with_reducible refine (EN.out _ (hL0.out _ D0.out.bel)).mono ?_); rintro ex w1 ⟨rfl, hb⟩; have D1 := Lib.hid (D0.out.step hb); clear hb; have D := D1.out; have c0 := dblk_cell (j := 0) (v := .string nm) D.box rfl; have c1 := dblk_cell (j := 1) (v := .int .i64 x1) D.box rfl; have c2 := dblk_cell (j := 2) (v := .int .i64 x2) D.box rfl; have c3 := dblk_cell (j := 3) (v := .int .i64 d) D.box rfl; have c4 := dblk_cell (j := 4) (v := .int .i64 a) D.box rfl; have c5 := dblk_cell (j := 5) (v := .int .u32 i) D.box rfl; have e0 := dblk_cell (j := 0) (v := .int .u32 0) D.nb rfl; have f0 := dblk_free (j := 0) D.nb; have e1 := dblk_cell (j := 0) (v := .bool false) D.ob rfl; have f1 := dblk_free (j := 0) D.ob; clear D)
    | (go_at_call 12; (with_reducible refine (KN.out _ (hL0.out _ D1.out.bel)).mono ?_); rintro ex w2 ⟨rfl, hb⟩; clear c0 c1 c2 c3 c4 c5 e0 f0 e1 f1; have D2 := Lib.hid (D1.out.step hb); clear hb; have D := D2.out; have c0 := dblk_cell (j := 0) (v := .string nm) D.box rfl; have c1 := dblk_cell (j := 1) (v := .int .i64 x1) D.box rfl; have c2 := dblk_cell (j := 2) (v := .int .i64 x2) D.box rfl; have c3 := dblk_cell (j := 3) (v := .int .i64 d) D.box rfl; have c4 := dblk_cell (j := 4) (v := .int .i64 a) D.box rfl; have c5 := dblk_cell (j := 5) (v := .int .u32 i) D.box rfl; have e0 := dblk_cell (j := 0) (v := .int .u32 0) D.nb rfl; have f0 := dblk_free (j := 0) D.nb; have e1 := dblk_cell (j := 0) (v := .bool false) D.ob rfl; have f1 := dblk_free (j := 0) D.ob; clear D)
    | (go_at_call 18; (with_reducible refine (FO.out _ (hL0.out _ D2.out.bel)).mono ?_); rintro ex w3 ⟨rfl, hb⟩; clear c0 c1 c2 c3 c4 c5 e0 f0 e1 f1; have D3 := Lib.hid (D2.out.step hb); clear hb; have D := D3.out; have c0 := dblk_cell (j := 0) (v := .string nm) D.box rfl; have c1 := dblk_cell (j := 1) (v := .int .i64 x1) D.box rfl; have c2 := dblk_cell (j := 2) (v := .int .i64 x2) D.box rfl; have c3 := dblk_cell (j := 3) (v := .int .i64 d) D.box rfl; have c4 := dblk_cell (j := 4) (v := .int .i64 a) D.box rfl; have c5 := dblk_cell (j := 5) (v := .int .u32 i) D.box rfl; have e0 := dblk_cell (j := 0) (v := .int .u32 0) D.nb rfl; have f0 := dblk_free (j := 0) D.nb; have e1 := dblk_cell (j := 0) (v := .bool false) D.ob rfl; have f1 := dblk_free (j := 0) D.ob; clear D)
    | (go_at_call 19; (with_reducible refine (SM.out _).mono ?_); rintro ex w4 ⟨rfl, hb⟩; clear c0 c1 c2 c3 c4 c5 e0 f0 e1 f1; have D4 := Lib.hid (D3.out.step hb); clear hb; have D := D4.out; have c0 := dblk_cell (j := 0) (v := .string nm) D.box rfl; have c1 := dblk_cell (j := 1) (v := .int .i64 x1) D.box rfl; have c2 := dblk_cell (j := 2) (v := .int .i64 x2) D.box rfl; have c3 := dblk_cell (j := 3) (v := .int .i64 d) D.box rfl; have c4 := dblk_cell (j := 4) (v := .int .i64 a) D.box rfl; have c5 := dblk_cell (j := 5) (v := .int .u32 i) D.box rfl; have e0 := dblk_cell (j := 0) (v := .int .u32 0) D.nb rfl; have f0 := dblk_free (j := 0) D.nb; have e1 := dblk_cell (j := 0) (v := .bool false) D.ob rfl; have f1 := dblk_free (j := 0) D.ob; clear D))
  refine leaves_cons (f := 17) (args := #[.pointer (some ⟨w.heap.size + 1, 0, none⟩), .pointer (some ⟨w.heap.size + 1 + 1, 0, none⟩)]) (by simp) (by simp [go_sem]) ?_
  have hsz : w.heap.size + 1 + 1 < w4.heap.size := dblk_lt D4.out.ob
  refine (do_panicking ⟨w.heap.size + 1, 0, none⟩ ⟨w.heap.size + 1 + 1, 0, none⟩ _ _ _ _ e0 e1 f0 f1 (by simp) (by show w.heap.size + 1 < _; omega) hsz).mono ?_
  rintro e u' w'' ⟨rfl, rfl, rfl⟩
  have e0' : (w4.alloc (.cells #[] 37)).cell? ⟨w.heap.size + 1, 0, none⟩ = some (.int .u32 0) := (((Below.refl _ w4).alloc (Nat.le_refl _) _).cell (by show w.heap.size + 1 < _; omega)).trans e0
  have e1' : (w4.alloc (.cells #[] 37)).cell? ⟨w.heap.size + 1 + 1, 0, none⟩ = some (.bool false) := (((Below.refl _ w4).alloc (Nat.le_refl _) _).cell hsz).trans e1
  simp [Leaves, settle, results, Tryd.results10, go_sem, e0', e1']
  exact (Below.setCell (p := ⟨w.heap.size + 1 + 1, 0, none⟩) (Below.setCell (p := ⟨w.heap.size + 1, 0, none⟩) (D4.out.bel.alloc (by omega) _) (Nat.le_add_right _ 1) _) (Nat.le_add_right _ 2) _)
set_option maxHeartbeats 8000000 in
set_option maxRecDepth 100000 in
theorem do_over_add (nm : ByteArray) (x1 x2 d a i s t : Int) (w : World) (hL : Laid w) (r1 : Int) (fm : ByteArray) (he : dec_Encode.f nm x1 x2 d a i = some (r1, true)) (hk : alu_Known.f nm = some true) (hf : dec_Form.f nm = some fm) (g0 : (fm.toList == [116, 115, 105]) = false) (g1 : (fm.toList == [116, 105]) = false) (g2 : (fm.toList == [100, 116, 97]) = false) (g3 : (fm.toList == [100, 116, 114]) = false) (g4 : (fm.toList == [100, 116, 115]) = false) (g5 : (fm.toList == [100, 116, 118]) = false) (y : (nm.toList == [97, 100, 100]) = true) (ho : sumOver s t = true) :
    Calls Tryd.prog 10 #[.agg #[.string nm, .int .i64 x1, .int .i64 x2, .int .i64 d, .int .i64 a, .int .u32 i], .int .u32 s, .int .u32 t] w fun e w' => e = .returned (.tuple #[.int .u32 0, .bool false]) ∧ Below w.heap.size w w' := by
  have D0 := Lib.hid (DoW.first nm x1 x2 d a i s t w)
  have hL0 := Lib.hid (fun (W : World) (h : Below w.heap.size w W) => hL.below h)
  have hu := Tryd.underlying29
  have hmf : ∀ (fn : Fn) (first cap : Array Value) (w : World), (Instr.makeFunc fn first cap).run Tryd.prog w = .ok (.func fn first cap) w := fun _ _ _ _ => rfl
  have EN := Lib.hid (fun w hL => dec_Encode.calls nm x1 x2 d a i _ _ w hL he)
  clear he
  have KN := Lib.hid (fun w hL => alu_Known.calls nm _ w hL hk)
  clear hk
  have FO := Lib.hid (fun w hL => dec_Form.calls nm fm w hL hf)
  clear hf
  have BO := Lib.hid (fun w => alu_both.throws_add nm x1 x2 d a i s t w y ho)
  clear ho
  go_enter_defers Tryd.func10, Tryd.ntmps10
  go_wp2_with (first
    | (go_at_call 16; (with_reducible refine (EN.out _ (hL0.out _ D0.out.bel)).mono ?_); rintro ex w1 ⟨rfl, hb⟩; have D1 := Lib.hid (D0.out.step hb); clear hb; have D := D1.out; have c0 := dblk_cell (j := 0) (v := .string nm) D.box rfl; have c1 := dblk_cell (j := 1) (v := .int .i64 x1) D.box rfl; have c2 := dblk_cell (j := 2) (v := .int .i64 x2) D.box rfl; have c3 := dblk_cell (j := 3) (v := .int .i64 d) D.box rfl; have c4 := dblk_cell (j := 4) (v := .int .i64 a) D.box rfl; have c5 := dblk_cell (j := 5) (v := .int .u32 i) D.box rfl; have e0 := dblk_cell (j := 0) (v := .int .u32 0) D.nb rfl; have f0 := dblk_free (j := 0) D.nb; have e1 := dblk_cell (j := 0) (v := .bool false) D.ob rfl; have f1 := dblk_free (j := 0) D.ob; clear D)
    | (go_at_call 12; (with_reducible refine (KN.out _ (hL0.out _ D1.out.bel)).mono ?_); rintro ex w2 ⟨rfl, hb⟩; clear c0 c1 c2 c3 c4 c5 e0 f0 e1 f1; have D2 := Lib.hid (D1.out.step hb); clear hb; have D := D2.out; have c0 := dblk_cell (j := 0) (v := .string nm) D.box rfl; have c1 := dblk_cell (j := 1) (v := .int .i64 x1) D.box rfl; have c2 := dblk_cell (j := 2) (v := .int .i64 x2) D.box rfl; have c3 := dblk_cell (j := 3) (v := .int .i64 d) D.box rfl; have c4 := dblk_cell (j := 4) (v := .int .i64 a) D.box rfl; have c5 := dblk_cell (j := 5) (v := .int .u32 i) D.box rfl; have e0 := dblk_cell (j := 0) (v := .int .u32 0) D.nb rfl; have f0 := dblk_free (j := 0) D.nb; have e1 := dblk_cell (j := 0) (v := .bool false) D.ob rfl; have f1 := dblk_free (j := 0) D.ob; clear D)
    | (go_at_call 18; (with_reducible refine (FO.out _ (hL0.out _ D2.out.bel)).mono ?_); rintro ex w3 ⟨rfl, hb⟩; clear c0 c1 c2 c3 c4 c5 e0 f0 e1 f1; have D3 := Lib.hid (D2.out.step hb); clear hb; have D := D3.out; have c0 := dblk_cell (j := 0) (v := .string nm) D.box rfl; have c1 := dblk_cell (j := 1) (v := .int .i64 x1) D.box rfl; have c2 := dblk_cell (j := 2) (v := .int .i64 x2) D.box rfl; have c3 := dblk_cell (j := 3) (v := .int .i64 d) D.box rfl; have c4 := dblk_cell (j := 4) (v := .int .i64 a) D.box rfl; have c5 := dblk_cell (j := 5) (v := .int .u32 i) D.box rfl; have e0 := dblk_cell (j := 0) (v := .int .u32 0) D.nb rfl; have f0 := dblk_free (j := 0) D.nb; have e1 := dblk_cell (j := 0) (v := .bool false) D.ob rfl; have f1 := dblk_free (j := 0) D.ob; clear D)
    | (go_at_call 21; (with_reducible refine (BO.out _).mono ?_); rintro ex w4 ⟨rfl, hb⟩; clear c0 c1 c2 c3 c4 c5 e0 f0 e1 f1; have D4 := Lib.hid (D3.out.step hb); clear hb; have D := D4.out; have c0 := dblk_cell (j := 0) (v := .string nm) D.box rfl; have c1 := dblk_cell (j := 1) (v := .int .i64 x1) D.box rfl; have c2 := dblk_cell (j := 2) (v := .int .i64 x2) D.box rfl; have c3 := dblk_cell (j := 3) (v := .int .i64 d) D.box rfl; have c4 := dblk_cell (j := 4) (v := .int .i64 a) D.box rfl; have c5 := dblk_cell (j := 5) (v := .int .u32 i) D.box rfl; have e0 := dblk_cell (j := 0) (v := .int .u32 0) D.nb rfl; have f0 := dblk_free (j := 0) D.nb; have e1 := dblk_cell (j := 0) (v := .bool false) D.ob rfl; have f1 := dblk_free (j := 0) D.ob; clear D))
  refine leaves_cons (f := 17) (args := #[.pointer (some ⟨w.heap.size + 1, 0, none⟩), .pointer (some ⟨w.heap.size + 1 + 1, 0, none⟩)]) (by simp) (by simp [go_sem]) ?_
  have hsz : w.heap.size + 1 + 1 < w4.heap.size := dblk_lt D4.out.ob
  refine (do_panicking ⟨w.heap.size + 1, 0, none⟩ ⟨w.heap.size + 1 + 1, 0, none⟩ _ _ _ _ e0 e1 f0 f1 (by simp) (by show w.heap.size + 1 < _; omega) hsz).mono ?_
  rintro e u' w'' ⟨rfl, rfl, rfl⟩
  have e0' : (w4.alloc (.cells #[] 37)).cell? ⟨w.heap.size + 1, 0, none⟩ = some (.int .u32 0) := (((Below.refl _ w4).alloc (Nat.le_refl _) _).cell (by show w.heap.size + 1 < _; omega)).trans e0
  have e1' : (w4.alloc (.cells #[] 37)).cell? ⟨w.heap.size + 1 + 1, 0, none⟩ = some (.bool false) := (((Below.refl _ w4).alloc (Nat.le_refl _) _).cell hsz).trans e1
  simp [Leaves, settle, results, Tryd.results10, go_sem, e0', e1']
  exact (Below.setCell (p := ⟨w.heap.size + 1 + 1, 0, none⟩) (Below.setCell (p := ⟨w.heap.size + 1, 0, none⟩) (D4.out.bel.alloc (by omega) _) (Nat.le_add_right _ 1) _) (Nat.le_add_right _ 2) _)
set_option maxHeartbeats 8000000 in
set_option maxRecDepth 100000 in
theorem do_over_sub (nm : ByteArray) (x1 x2 d a i s t : Int) (w : World) (hL : Laid w) (r1 : Int) (fm : ByteArray) (he : dec_Encode.f nm x1 x2 d a i = some (r1, true)) (hk : alu_Known.f nm = some true) (hf : dec_Form.f nm = some fm) (g0 : (fm.toList == [116, 115, 105]) = false) (g1 : (fm.toList == [116, 105]) = false) (g2 : (fm.toList == [100, 116, 97]) = false) (g3 : (fm.toList == [100, 116, 114]) = false) (g4 : (fm.toList == [100, 116, 115]) = false) (g5 : (fm.toList == [100, 116, 118]) = false) (y : (nm.toList == [115, 117, 98]) = true) (n0 : (nm.toList == [97, 100, 100]) = false) (ho : lessOver s t = true) :
    Calls Tryd.prog 10 #[.agg #[.string nm, .int .i64 x1, .int .i64 x2, .int .i64 d, .int .i64 a, .int .u32 i], .int .u32 s, .int .u32 t] w fun e w' => e = .returned (.tuple #[.int .u32 0, .bool false]) ∧ Below w.heap.size w w' := by
  have D0 := Lib.hid (DoW.first nm x1 x2 d a i s t w)
  have hL0 := Lib.hid (fun (W : World) (h : Below w.heap.size w W) => hL.below h)
  have hu := Tryd.underlying29
  have hmf : ∀ (fn : Fn) (first cap : Array Value) (w : World), (Instr.makeFunc fn first cap).run Tryd.prog w = .ok (.func fn first cap) w := fun _ _ _ _ => rfl
  have EN := Lib.hid (fun w hL => dec_Encode.calls nm x1 x2 d a i _ _ w hL he)
  clear he
  have KN := Lib.hid (fun w hL => alu_Known.calls nm _ w hL hk)
  clear hk
  have FO := Lib.hid (fun w hL => dec_Form.calls nm fm w hL hf)
  clear hf
  have BO := Lib.hid (fun w => alu_both.throws_sub nm x1 x2 d a i s t w y n0 ho)
  clear ho
  go_enter_defers Tryd.func10, Tryd.ntmps10
  go_wp2_with (first
    | (go_at_call 16; (with_reducible refine (EN.out _ (hL0.out _ D0.out.bel)).mono ?_); rintro ex w1 ⟨rfl, hb⟩; have D1 := Lib.hid (D0.out.step hb); clear hb; have D := D1.out; have c0 := dblk_cell (j := 0) (v := .string nm) D.box rfl; have c1 := dblk_cell (j := 1) (v := .int .i64 x1) D.box rfl; have c2 := dblk_cell (j := 2) (v := .int .i64 x2) D.box rfl; have c3 := dblk_cell (j := 3) (v := .int .i64 d) D.box rfl; have c4 := dblk_cell (j := 4) (v := .int .i64 a) D.box rfl; have c5 := dblk_cell (j := 5) (v := .int .u32 i) D.box rfl; have e0 := dblk_cell (j := 0) (v := .int .u32 0) D.nb rfl; have f0 := dblk_free (j := 0) D.nb; have e1 := dblk_cell (j := 0) (v := .bool false) D.ob rfl; have f1 := dblk_free (j := 0) D.ob; clear D)
    | (go_at_call 12; (with_reducible refine (KN.out _ (hL0.out _ D1.out.bel)).mono ?_); rintro ex w2 ⟨rfl, hb⟩; clear c0 c1 c2 c3 c4 c5 e0 f0 e1 f1; have D2 := Lib.hid (D1.out.step hb); clear hb; have D := D2.out; have c0 := dblk_cell (j := 0) (v := .string nm) D.box rfl; have c1 := dblk_cell (j := 1) (v := .int .i64 x1) D.box rfl; have c2 := dblk_cell (j := 2) (v := .int .i64 x2) D.box rfl; have c3 := dblk_cell (j := 3) (v := .int .i64 d) D.box rfl; have c4 := dblk_cell (j := 4) (v := .int .i64 a) D.box rfl; have c5 := dblk_cell (j := 5) (v := .int .u32 i) D.box rfl; have e0 := dblk_cell (j := 0) (v := .int .u32 0) D.nb rfl; have f0 := dblk_free (j := 0) D.nb; have e1 := dblk_cell (j := 0) (v := .bool false) D.ob rfl; have f1 := dblk_free (j := 0) D.ob; clear D)
    | (go_at_call 18; (with_reducible refine (FO.out _ (hL0.out _ D2.out.bel)).mono ?_); rintro ex w3 ⟨rfl, hb⟩; clear c0 c1 c2 c3 c4 c5 e0 f0 e1 f1; have D3 := Lib.hid (D2.out.step hb); clear hb; have D := D3.out; have c0 := dblk_cell (j := 0) (v := .string nm) D.box rfl; have c1 := dblk_cell (j := 1) (v := .int .i64 x1) D.box rfl; have c2 := dblk_cell (j := 2) (v := .int .i64 x2) D.box rfl; have c3 := dblk_cell (j := 3) (v := .int .i64 d) D.box rfl; have c4 := dblk_cell (j := 4) (v := .int .i64 a) D.box rfl; have c5 := dblk_cell (j := 5) (v := .int .u32 i) D.box rfl; have e0 := dblk_cell (j := 0) (v := .int .u32 0) D.nb rfl; have f0 := dblk_free (j := 0) D.nb; have e1 := dblk_cell (j := 0) (v := .bool false) D.ob rfl; have f1 := dblk_free (j := 0) D.ob; clear D)
    | (go_at_call 21; (with_reducible refine (BO.out _).mono ?_); rintro ex w4 ⟨rfl, hb⟩; clear c0 c1 c2 c3 c4 c5 e0 f0 e1 f1; have D4 := Lib.hid (D3.out.step hb); clear hb; have D := D4.out; have c0 := dblk_cell (j := 0) (v := .string nm) D.box rfl; have c1 := dblk_cell (j := 1) (v := .int .i64 x1) D.box rfl; have c2 := dblk_cell (j := 2) (v := .int .i64 x2) D.box rfl; have c3 := dblk_cell (j := 3) (v := .int .i64 d) D.box rfl; have c4 := dblk_cell (j := 4) (v := .int .i64 a) D.box rfl; have c5 := dblk_cell (j := 5) (v := .int .u32 i) D.box rfl; have e0 := dblk_cell (j := 0) (v := .int .u32 0) D.nb rfl; have f0 := dblk_free (j := 0) D.nb; have e1 := dblk_cell (j := 0) (v := .bool false) D.ob rfl; have f1 := dblk_free (j := 0) D.ob; clear D))
  refine leaves_cons (f := 17) (args := #[.pointer (some ⟨w.heap.size + 1, 0, none⟩), .pointer (some ⟨w.heap.size + 1 + 1, 0, none⟩)]) (by simp) (by simp [go_sem]) ?_
  have hsz : w.heap.size + 1 + 1 < w4.heap.size := dblk_lt D4.out.ob
  refine (do_panicking ⟨w.heap.size + 1, 0, none⟩ ⟨w.heap.size + 1 + 1, 0, none⟩ _ _ _ _ e0 e1 f0 f1 (by simp) (by show w.heap.size + 1 < _; omega) hsz).mono ?_
  rintro e u' w'' ⟨rfl, rfl, rfl⟩
  have e0' : (w4.alloc (.cells #[] 37)).cell? ⟨w.heap.size + 1, 0, none⟩ = some (.int .u32 0) := (((Below.refl _ w4).alloc (Nat.le_refl _) _).cell (by show w.heap.size + 1 < _; omega)).trans e0
  have e1' : (w4.alloc (.cells #[] 37)).cell? ⟨w.heap.size + 1 + 1, 0, none⟩ = some (.bool false) := (((Below.refl _ w4).alloc (Nat.le_refl _) _).cell hsz).trans e1
  simp [Leaves, settle, results, Tryd.results10, go_sem, e0', e1']
  exact (Below.setCell (p := ⟨w.heap.size + 1 + 1, 0, none⟩) (Below.setCell (p := ⟨w.heap.size + 1, 0, none⟩) (D4.out.bel.alloc (by omega) _) (Nat.le_add_right _ 1) _) (Nat.le_add_right _ 2) _)
def addiOver (i s : Int) : Bool := match swap_Sext.f i 16 with | some v => sumOver s v | none => false
-- HAND fn=ferry/alu.Do ; rounds=0 ; making=1 ; laid=1
def alu_Do.f (nm : ByteArray) (x1 x2 d a i s t : Int) : Option (Int × Bool) := (dec_Encode.f nm x1 x2 d a i).bind fun c =>
  if c.2 = true then (if nm.toList ∈ aluNames then (dec_Form.f nm).bind fun fm =>
    if fm.toList = [116, 115, 105] then (if nm.toList = [97, 100, 100, 105] ∧ addiOver i s = true then some (0, false) else (alu_small.f nm x1 x2 d a i s).bind fun r => some (r, true))
    else if fm.toList = [116, 105] then (alu_small.f nm x1 x2 d a i s).bind fun r => some (r, true)
    else if fm.toList = [100, 116, 97] then (alu_shift.f nm t a).bind fun r => some (r, true)
    else if fm.toList = [100, 116, 114] then (alu_shift.f nm t a).bind fun r => some (r, true)
    else if fm.toList = [100, 116, 115] then (alu_shift.f nm t (wrap64 (bits .and .u32 s 31))).bind fun r => some (r, true)
    else if fm.toList = [100, 116, 118] then (alu_shift.f nm t (wrap64 (bits .and .u32 s 31))).bind fun r => some (r, true)
    else if nm.toList = [97, 100, 100] ∧ sumOver s t = true then some (0, false)
    else if nm.toList = [115, 117, 98] ∧ lessOver s t = true then some (0, false)
    else (alu_both.f nm x1 x2 d a i s t).bind fun r => some (r, true)
  else some (0, false)) else some (0, false)
theorem alu_Do.calls (nm : ByteArray) (x1 x2 d a i s t : Int) (r1 : Int) (r2 : Bool) (w : World) (hL : Laid w) (h : alu_Do.f nm x1 x2 d a i s t = some (r1, r2)) :
    Calls Tryd.prog 10 #[.agg #[.string nm, .int .i64 x1, .int .i64 x2, .int .i64 d, .int .i64 a, .int .u32 i], .int .u32 s, .int .u32 t] w fun e w' => e = .returned (.tuple #[.int .u32 r1, .bool r2]) ∧ Below w.heap.size w w' := by
  unfold alu_Do.f at h
  obtain ⟨⟨q, can⟩, he, h⟩ := Option.bind_eq_some_iff.1 h
  dsimp only at h
  cases can
  · rw [if_neg (by decide)] at h
    obtain ⟨rfl, rfl⟩ := Prod.mk.inj (Option.some.inj h)
    exact do_no_enc nm x1 x2 d a i s t w hL q he
  rw [if_pos rfl] at h
  by_cases hk : nm.toList ∈ aluNames
  · rw [if_pos hk] at h
    have hk' : alu_Known.f nm = some true := by unfold alu_Known.f; rw [decide_eq_true hk]
    obtain ⟨fm, hf, h⟩ := Option.bind_eq_some_iff.1 h
    by_cases p0 : fm.toList = [116, 115, 105]
    · rw [if_pos p0] at h
      by_cases ho : nm.toList = [97, 100, 100, 105] ∧ addiOver i s = true
      · rw [if_pos ho] at h
        obtain ⟨rfl, rfl⟩ := Prod.mk.inj (Option.some.inj h)
        obtain ⟨hn, ho⟩ := ho
        unfold addiOver at ho
        split at ho
        · rename_i v hv
          exact do_over_addi nm x1 x2 d a i s t w hL q fm he hk' hf (beq_iff_eq.2 p0) v (beq_iff_eq.2 hn) hv ho
        · cases ho
      rw [if_neg ho] at h
      obtain ⟨r, hs, h⟩ := Option.bind_eq_some_iff.1 h
      obtain ⟨rfl, rfl⟩ := Prod.mk.inj (Option.some.inj h)
      exact do_tsi nm x1 x2 d a i s t w hL q fm he hk' hf (beq_iff_eq.2 p0) r hs
    rw [if_neg p0] at h
    by_cases p1 : fm.toList = [116, 105]
    · rw [if_pos p1] at h
      obtain ⟨r, hs, h⟩ := Option.bind_eq_some_iff.1 h
      obtain ⟨rfl, rfl⟩ := Prod.mk.inj (Option.some.inj h)
      exact do_ti nm x1 x2 d a i s t w hL q fm he hk' hf (beq_eq_false_iff_ne.2 p0) (beq_iff_eq.2 p1) r hs
    rw [if_neg p1] at h
    by_cases p2 : fm.toList = [100, 116, 97]
    · rw [if_pos p2] at h
      obtain ⟨r, hs, h⟩ := Option.bind_eq_some_iff.1 h
      obtain ⟨rfl, rfl⟩ := Prod.mk.inj (Option.some.inj h)
      exact do_dta nm x1 x2 d a i s t w hL q fm he hk' hf (beq_eq_false_iff_ne.2 p0) (beq_eq_false_iff_ne.2 p1) (beq_iff_eq.2 p2) r hs
    rw [if_neg p2] at h
    by_cases p3 : fm.toList = [100, 116, 114]
    · rw [if_pos p3] at h
      obtain ⟨r, hs, h⟩ := Option.bind_eq_some_iff.1 h
      obtain ⟨rfl, rfl⟩ := Prod.mk.inj (Option.some.inj h)
      exact do_dtr nm x1 x2 d a i s t w hL q fm he hk' hf (beq_eq_false_iff_ne.2 p0) (beq_eq_false_iff_ne.2 p1) (beq_eq_false_iff_ne.2 p2) (beq_iff_eq.2 p3) r hs
    rw [if_neg p3] at h
    by_cases p4 : fm.toList = [100, 116, 115]
    · rw [if_pos p4] at h
      obtain ⟨r, hs, h⟩ := Option.bind_eq_some_iff.1 h
      obtain ⟨rfl, rfl⟩ := Prod.mk.inj (Option.some.inj h)
      exact do_dts nm x1 x2 d a i s t w hL q fm he hk' hf (beq_eq_false_iff_ne.2 p0) (beq_eq_false_iff_ne.2 p1) (beq_eq_false_iff_ne.2 p2) (beq_eq_false_iff_ne.2 p3) (beq_iff_eq.2 p4) r hs
    rw [if_neg p4] at h
    by_cases p5 : fm.toList = [100, 116, 118]
    · rw [if_pos p5] at h
      obtain ⟨r, hs, h⟩ := Option.bind_eq_some_iff.1 h
      obtain ⟨rfl, rfl⟩ := Prod.mk.inj (Option.some.inj h)
      exact do_dtv nm x1 x2 d a i s t w hL q fm he hk' hf (beq_eq_false_iff_ne.2 p0) (beq_eq_false_iff_ne.2 p1) (beq_eq_false_iff_ne.2 p2) (beq_eq_false_iff_ne.2 p3) (beq_eq_false_iff_ne.2 p4) (beq_iff_eq.2 p5) r hs
    rw [if_neg p5] at h
    by_cases ho : nm.toList = [97, 100, 100] ∧ sumOver s t = true
    · rw [if_pos ho] at h
      obtain ⟨rfl, rfl⟩ := Prod.mk.inj (Option.some.inj h)
      exact do_over_add nm x1 x2 d a i s t w hL q fm he hk' hf (beq_eq_false_iff_ne.2 p0) (beq_eq_false_iff_ne.2 p1) (beq_eq_false_iff_ne.2 p2) (beq_eq_false_iff_ne.2 p3) (beq_eq_false_iff_ne.2 p4) (beq_eq_false_iff_ne.2 p5) (beq_iff_eq.2 ho.1) ho.2
    rw [if_neg ho] at h
    by_cases hl : nm.toList = [115, 117, 98] ∧ lessOver s t = true
    · rw [if_pos hl] at h
      obtain ⟨rfl, rfl⟩ := Prod.mk.inj (Option.some.inj h)
      exact do_over_sub nm x1 x2 d a i s t w hL q fm he hk' hf (beq_eq_false_iff_ne.2 p0) (beq_eq_false_iff_ne.2 p1) (beq_eq_false_iff_ne.2 p2) (beq_eq_false_iff_ne.2 p3) (beq_eq_false_iff_ne.2 p4) (beq_eq_false_iff_ne.2 p5) (beq_iff_eq.2 hl.1) (beq_eq_false_iff_ne.2 (by rw [hl.1]; decide)) hl.2
    rw [if_neg hl] at h
    obtain ⟨r, hs, h⟩ := Option.bind_eq_some_iff.1 h
    obtain ⟨rfl, rfl⟩ := Prod.mk.inj (Option.some.inj h)
    exact do_both nm x1 x2 d a i s t w hL q fm he hk' hf (beq_eq_false_iff_ne.2 p0) (beq_eq_false_iff_ne.2 p1) (beq_eq_false_iff_ne.2 p2) (beq_eq_false_iff_ne.2 p3) (beq_eq_false_iff_ne.2 p4) (beq_eq_false_iff_ne.2 p5) r hs
  rw [if_neg hk] at h
  obtain ⟨rfl, rfl⟩ := Prod.mk.inj (Option.some.inj h)
  exact do_no_known nm x1 x2 d a i s t w hL q he (by unfold alu_Known.f; rw [decide_eq_false hk])
end Go.Proofs.YtnddjndgfaefaaaDoor.F
end
