import Derived.Below
import Derived.Deep.Draws
import Derived.Deep.AppendLies
import Derived.Maps.AppendAt
import Derived.OwnWalk
import Derived.Laws.BytesArg
import Derived.Laws.MakeOwn
import Derived.Laws.OwnMore
import Derived.Deep.OwnRows
import Derived.Tactics
import Derived.Lib.ConvBytes
import Derived.Laws.Slices
import Derived.WalkKit
import Derived.KernelRfl
import Derived.RowKit3
import Derived.Deep.LoopGhost
import Derived.Deep.QuietTactic
import Derived.BigQuiet
import Derived.WideLaws
import Derived.Deep.DeepCutAuto
import Derived.Deep.CutBlock
import Derived.Deep.RegionHeld3
import Derived.Laws.Rows
import Derived.Lib.AppendStr
import Derived.ArgAppend
import Derived.Laws.IdiomCopy
import Derived.RowKit
import Derived.OrdersHeld
import Derived.Laws.BitsLemmas
import Derived.Laws.StructEq
import Derived.ProofKit
import Derived.Lib.Hide
import Derived.Maps.OwnOps
import Derived.RangeFuncRecord
import Derived.Shelf.LaysM
import Derived.Shelf.Strings.Replace
import Derived.Lib.LaidTab
import Derived.Shelf.Abstract
import Derived.OwnWalkIn
import Derived.WalkSmall
import Derived.Laws.ResultCell
import Derived.Shelf.RegionOpen
import Derived.Deep.RegionWith
import Derived.Test.YtjkpgfjnidflhaaDoorZF0
import Derived.Test.YtjkpgfjnidflhaaDoorYA3
import Derived.Test.YtjkpgfjnidflhaaDoorYA5HDecTake
import Derived.Test.YtjkpgfjnidflhaaDoorYA6HDecFixed
import Derived.Test.YtjkpgfjnidflhaaDoorYA8HDecForms
import Derived.Test.YtjkpgfjnidflhaaDoorYA9FDecSound
section
namespace Go.Proofs.YtjkpgfjnidflhaaDoor.F
open Go.RowKit Go.Shelf Go.Proofs.YtjkpgfjnidflhaaDoorW.PrintWords Go.Proofs.YtjkpgfjnidflhaaDoorW.PrintLast Go.Proofs.YtjkpgfjnidflhaaDoorW.PrintMore
set_option linter.unusedVariables false
set_option linter.unusedSimpArgs false
def soundOf (nm : ByteArray) (x : Nums) : Bool := (dec_sound.f nm x.s x.t x.d x.a x.i).getD false
theorem sound_some (nm : ByteArray) (x : Nums) : dec_sound.f nm x.s x.t x.d x.a x.i = some (soundOf nm x) := by
  unfold soundOf dec_sound.f
  repeat' split
  all_goals rfl
theorem sound_calls (nm : ByteArray) (x : Nums) (w : World) : Calls Tryd.prog 19 #[.agg #[.string nm, .int .i64 x.s, .int .i64 x.t, .int .i64 x.d, .int .i64 x.a, .int .u32 x.i]] w fun e w' => e = .returned (.bool (soundOf nm x)) ∧ Below w.heap.size w w' :=
  dec_sound.calls nm x.s x.t x.d x.a x.i (soundOf nm x) w (sound_some nm x)
theorem take_calls (nm form : ByteArray) (op sub w0 : Int) (q : List UInt8 × List UInt8 × Int × Int) (hq : infoOf form.toList = some q) (w : World) (hL : Laid w) :
    Calls Tryd.prog 17 #[.agg #[.string nm, .int .u32 op, .int .u32 sub, .string form], .int .u32 w0] w fun e w' => e = .returned (.agg #[.string nm, .int .i64 (takeAll q w0).s, .int .i64 (takeAll q w0).t, .int .i64 (takeAll q w0).d, .int .i64 (takeAll q w0).a, .int .u32 (takeAll q w0).i]) ∧ Below w.heap.size w w' :=
  dec_row_take.calls nm op sub form w0 nm _ _ _ _ _ w hL (by unfold dec_row_take.f; rw [hq]; rfl)
theorem lay_calls (nm form nm2 : ByteArray) (op sub : Int) (x : Nums) (q : List UInt8 × List UInt8 × Int × Int) (hq : infoOf form.toList = some q) (w : World) (hL : Laid w) :
    Calls Tryd.prog 18 #[.agg #[.string nm, .int .u32 op, .int .u32 sub, .string form], .agg #[.string nm2, .int .i64 x.s, .int .i64 x.t, .int .i64 x.d, .int .i64 x.a, .int .u32 x.i]] w fun e w' => e = .returned (.int .u32 (layAll q op sub x)) ∧ Below w.heap.size w w' :=
  dec_row_lay.calls nm op sub form nm2 x.s x.t x.d x.a x.i (layAll q op sub x) w hL (by unfold dec_row_lay.f; rw [hq]; rfl)
theorem cell_alloc1z {W : World} {a : Addr} {v : Value} (o : Obj) (h : W.cell? a = some v) : (W.alloc o).cell? a = some v := pw_cell_below ((Below.refl _ W).alloc (Nat.le_refl _) o) h
def rowIs (q : List UInt8 × List UInt8 × Int × Int) (x : S38) (w0 : Int) : Bool := x.f1 == w0 / 67108864 && layAll q x.f1 x.f2 (takeAll q w0) == w0 && soundOf x.f0 (takeAll q w0)
set_option maxHeartbeats 4000000 in
set_option maxRecDepth 100000 in
theorem decode_is.calls (x : S38) (pe : Addr) (w0 : Int) (w : World) (hL : Laid w) (hp : w.cell? pe = some (.int .u32 w0)) (hlt : pe.block < w.heap.size) (q : List UInt8 × List UInt8 × Int × Int) (hq : infoOf x.f3.toList = some q) (b : Bool) (hb : rowIs q x w0 = b) :
    Calls Tryd.prog 16 #[.agg #[.string x.f0, .int .u32 x.f1, .int .u32 x.f2, .string x.f3], .pointer (some pe)] w fun ex w' => ex = .returned (.bool b) ∧ Below w.heap.size w w' := by
  obtain ⟨x0, x1, x2, x3⟩ := x
  dsimp only at hq hb ⊢
  have TK := Lib.hid (fun w hL => take_calls x0 x3 x1 x2 w0 q hq w hL)
  have LY := Lib.hid (fun w hL => lay_calls x0 x3 x0 x1 x2 (takeAll q w0) q hq w hL)
  have SD := Lib.hid (fun w => sound_calls x0 (takeAll q w0) w)
  unfold rowIs at hb
  dsimp only at hb
  generalize takeAll q w0 = n at TK LY SD hb
  generalize layAll q x1 x2 n = v at LY hb
  generalize soundOf x0 n = s at SD hb
  have HL := Lib.hid hL
  clear hq hL
  have T1 := Lib.hid (one_block w (.cells #[.string x0, .int .u32 x1, .int .u32 x2, .string x3] 38))
  have p1 := Lib.hid ((T1.out.2.2.cell (p := pe) hlt).trans hp)
  clear hp
  have hlt' : pe.block < w.heap.size + 1 := by omega
  cases hb1 : (x1 == w0 / 67108864)
  · rw [hb1] at hb
    simp only [Bool.false_and] at hb
    subst hb
    have p1' := p1.out
    go_enter Tryd.func16, Tryd.ntmps16
    go_wp2_with (go_at_call 17; (with_reducible refine (TK.out _ (Laid.below HL.out T1.out.2.2)).mono ?_); rintro ex w1 ⟨rfl, hb2⟩; have B1 := Lib.hid (T1.out.2.2.trans (hb2.mono (by rw [T1.out.2.1]; omega))); have r1 := (hb2.block _ (by rw [T1.out.2.1]; omega)).trans T1.out.1; have p2 := (hb2.cell (p := pe) (by rw [T1.out.2.1]; omega)).trans p1.out; clear hb2; have R2 := Lib.hid ((Below.refl _ w1).alloc (Nat.le_refl _) (.cells #[.string x0, .int .i64 n.s, .int .i64 n.t, .int .i64 n.d, .int .i64 n.a, .int .u32 n.i] 24)); have r2 := (R2.out.block _ (dblk_lt r1)).trans r1; have i2 := World.alloc_heap_new w1 (.cells #[.string x0, .int .i64 n.s, .int .i64 n.t, .int .i64 n.d, .int .i64 n.a, .int .u32 n.i] 24); have p3 := cell_alloc1z (.cells #[.string x0, .int .i64 n.s, .int .i64 n.t, .int .i64 n.d, .int .i64 n.a, .int .u32 n.i] 24) p2; have P3 := Lib.hid p3; have I2 := Lib.hid i2; have RR2 := Lib.hid r2; have c0 := dblk_cell (j := 0) (v := .string x0) r2 rfl; have c1 := dblk_cell (j := 1) (v := .int .u32 x1) r2 rfl; have c2 := dblk_cell (j := 2) (v := .int .u32 x2) r2 rfl; have c3 := dblk_cell (j := 3) (v := .string x3) r2 rfl; have i20 := dblk_cell (j := 0) (v := .string x0) i2 rfl; have i21 := dblk_cell (j := 1) (v := .int .i64 n.s) i2 rfl; have i22 := dblk_cell (j := 2) (v := .int .i64 n.t) i2 rfl; have i23 := dblk_cell (j := 3) (v := .int .i64 n.d) i2 rfl; have i24 := dblk_cell (j := 4) (v := .int .i64 n.a) i2 rfl; have i25 := dblk_cell (j := 5) (v := .int .u32 n.i) i2 rfl; clear r1 r2 i2)
    have BL := Lib.hid (show Below w.heap.size w (World.drew _) from ((B1.out.trans (R2.out.mono B1.out.size)).drew))
    have PL := Lib.hid (show pe.block < (World.drew _).heap.size from Nat.lt_of_lt_of_le hlt BL.out.size)
    go_region_with (fail)
    all_goals go_wp2
    all_goals go_ret
    all_goals exact ⟨rfl, BL.out⟩
  · rw [hb1] at hb
    simp only [Bool.true_and] at hb
    have p1' := p1.out
    cases hb2 : (v == w0)
    · rw [hb2] at hb
      simp only [Bool.false_and] at hb
      subst hb
      go_enter Tryd.func16, Tryd.ntmps16
      go_wp2_with (go_at_call 17; (with_reducible refine (TK.out _ (Laid.below HL.out T1.out.2.2)).mono ?_); rintro ex w1 ⟨rfl, hb2⟩; have B1 := Lib.hid (T1.out.2.2.trans (hb2.mono (by rw [T1.out.2.1]; omega))); have r1 := (hb2.block _ (by rw [T1.out.2.1]; omega)).trans T1.out.1; have p2 := (hb2.cell (p := pe) (by rw [T1.out.2.1]; omega)).trans p1.out; clear hb2; have R2 := Lib.hid ((Below.refl _ w1).alloc (Nat.le_refl _) (.cells #[.string x0, .int .i64 n.s, .int .i64 n.t, .int .i64 n.d, .int .i64 n.a, .int .u32 n.i] 24)); have r2 := (R2.out.block _ (dblk_lt r1)).trans r1; have i2 := World.alloc_heap_new w1 (.cells #[.string x0, .int .i64 n.s, .int .i64 n.t, .int .i64 n.d, .int .i64 n.a, .int .u32 n.i] 24); have p3 := cell_alloc1z (.cells #[.string x0, .int .i64 n.s, .int .i64 n.t, .int .i64 n.d, .int .i64 n.a, .int .u32 n.i] 24) p2; have P3 := Lib.hid p3; have I2 := Lib.hid i2; have RR2 := Lib.hid r2; have c0 := dblk_cell (j := 0) (v := .string x0) r2 rfl; have c1 := dblk_cell (j := 1) (v := .int .u32 x1) r2 rfl; have c2 := dblk_cell (j := 2) (v := .int .u32 x2) r2 rfl; have c3 := dblk_cell (j := 3) (v := .string x3) r2 rfl; have i20 := dblk_cell (j := 0) (v := .string x0) i2 rfl; have i21 := dblk_cell (j := 1) (v := .int .i64 n.s) i2 rfl; have i22 := dblk_cell (j := 2) (v := .int .i64 n.t) i2 rfl; have i23 := dblk_cell (j := 3) (v := .int .i64 n.d) i2 rfl; have i24 := dblk_cell (j := 4) (v := .int .i64 n.a) i2 rfl; have i25 := dblk_cell (j := 5) (v := .int .u32 n.i) i2 rfl; clear r1 r2 i2)
      have BL := Lib.hid (show Below w.heap.size w (World.drew _) from ((B1.out.trans (R2.out.mono B1.out.size)).drew))
      have PL := Lib.hid (show pe.block < (World.drew _).heap.size from Nat.lt_of_lt_of_le hlt BL.out.size)
      go_region_with (first
      | (go_at_call 18; (with_reducible refine (LY.out _ (Laid.below HL.out BL.out)).mono ?_); rintro ex w3 ⟨rfl, hb3⟩; have r3 := (hb3.block _ (dblk_lt RR2.out)).trans RR2.out; have i3 := (hb3.block _ (dblk_lt I2.out)).trans I2.out; have p4 := (hb3.cell (p := pe) PL.out).trans P3.out; have B3 := Lib.hid (BL.out.trans (hb3.mono BL.out.size)); clear hb3; have d0 := dblk_cell (j := 0) (v := .string x0) r3 rfl; have d1 := dblk_cell (j := 1) (v := .int .u32 x1) r3 rfl; have d2 := dblk_cell (j := 2) (v := .int .u32 x2) r3 rfl; have d3 := dblk_cell (j := 3) (v := .string x3) r3 rfl; have i30 := dblk_cell (j := 0) (v := .string x0) i3 rfl; have i31 := dblk_cell (j := 1) (v := .int .i64 n.s) i3 rfl; have i32 := dblk_cell (j := 2) (v := .int .i64 n.t) i3 rfl; have i33 := dblk_cell (j := 3) (v := .int .i64 n.d) i3 rfl; have i34 := dblk_cell (j := 4) (v := .int .i64 n.a) i3 rfl; have i35 := dblk_cell (j := 5) (v := .int .u32 n.i) i3 rfl; clear r3 i3)
      | (go_at_call 19; (with_reducible refine (SD.out _).mono ?_); rintro ex w4 ⟨rfl, hb4⟩; have B4 := Lib.hid (B3.out.trans (hb4.mono B3.out.size)); clear hb4))
      all_goals go_wp2
      all_goals go_ret
      all_goals exact ⟨rfl, B3.out⟩
    · rw [hb2] at hb
      simp only [Bool.true_and] at hb
      subst hb
      go_enter Tryd.func16, Tryd.ntmps16
      go_wp2_with (go_at_call 17; (with_reducible refine (TK.out _ (Laid.below HL.out T1.out.2.2)).mono ?_); rintro ex w1 ⟨rfl, hb2⟩; have B1 := Lib.hid (T1.out.2.2.trans (hb2.mono (by rw [T1.out.2.1]; omega))); have r1 := (hb2.block _ (by rw [T1.out.2.1]; omega)).trans T1.out.1; have p2 := (hb2.cell (p := pe) (by rw [T1.out.2.1]; omega)).trans p1.out; clear hb2; have R2 := Lib.hid ((Below.refl _ w1).alloc (Nat.le_refl _) (.cells #[.string x0, .int .i64 n.s, .int .i64 n.t, .int .i64 n.d, .int .i64 n.a, .int .u32 n.i] 24)); have r2 := (R2.out.block _ (dblk_lt r1)).trans r1; have i2 := World.alloc_heap_new w1 (.cells #[.string x0, .int .i64 n.s, .int .i64 n.t, .int .i64 n.d, .int .i64 n.a, .int .u32 n.i] 24); have p3 := cell_alloc1z (.cells #[.string x0, .int .i64 n.s, .int .i64 n.t, .int .i64 n.d, .int .i64 n.a, .int .u32 n.i] 24) p2; have P3 := Lib.hid p3; have I2 := Lib.hid i2; have RR2 := Lib.hid r2; have c0 := dblk_cell (j := 0) (v := .string x0) r2 rfl; have c1 := dblk_cell (j := 1) (v := .int .u32 x1) r2 rfl; have c2 := dblk_cell (j := 2) (v := .int .u32 x2) r2 rfl; have c3 := dblk_cell (j := 3) (v := .string x3) r2 rfl; have i20 := dblk_cell (j := 0) (v := .string x0) i2 rfl; have i21 := dblk_cell (j := 1) (v := .int .i64 n.s) i2 rfl; have i22 := dblk_cell (j := 2) (v := .int .i64 n.t) i2 rfl; have i23 := dblk_cell (j := 3) (v := .int .i64 n.d) i2 rfl; have i24 := dblk_cell (j := 4) (v := .int .i64 n.a) i2 rfl; have i25 := dblk_cell (j := 5) (v := .int .u32 n.i) i2 rfl; clear r1 r2 i2)
      have BL := Lib.hid (show Below w.heap.size w (World.drew _) from ((B1.out.trans (R2.out.mono B1.out.size)).drew))
      have PL := Lib.hid (show pe.block < (World.drew _).heap.size from Nat.lt_of_lt_of_le hlt BL.out.size)
      go_region_with (first
      | (go_at_call 18; (with_reducible refine (LY.out _ (Laid.below HL.out BL.out)).mono ?_); rintro ex w3 ⟨rfl, hb3⟩; have r3 := (hb3.block _ (dblk_lt RR2.out)).trans RR2.out; have i3 := (hb3.block _ (dblk_lt I2.out)).trans I2.out; have p4 := (hb3.cell (p := pe) PL.out).trans P3.out; have B3 := Lib.hid (BL.out.trans (hb3.mono BL.out.size)); clear hb3; have d0 := dblk_cell (j := 0) (v := .string x0) r3 rfl; have d1 := dblk_cell (j := 1) (v := .int .u32 x1) r3 rfl; have d2 := dblk_cell (j := 2) (v := .int .u32 x2) r3 rfl; have d3 := dblk_cell (j := 3) (v := .string x3) r3 rfl; have i30 := dblk_cell (j := 0) (v := .string x0) i3 rfl; have i31 := dblk_cell (j := 1) (v := .int .i64 n.s) i3 rfl; have i32 := dblk_cell (j := 2) (v := .int .i64 n.t) i3 rfl; have i33 := dblk_cell (j := 3) (v := .int .i64 n.d) i3 rfl; have i34 := dblk_cell (j := 4) (v := .int .i64 n.a) i3 rfl; have i35 := dblk_cell (j := 5) (v := .int .u32 n.i) i3 rfl; clear r3 i3)
      | (go_at_call 19; (with_reducible refine (SD.out _).mono ?_); rintro ex w4 ⟨rfl, hb4⟩; have B4 := Lib.hid (B3.out.trans (hb4.mono B3.out.size)); clear hb4))
      all_goals go_wp2
      all_goals go_ret
      all_goals exact ⟨rfl, B4.out⟩
end Go.Proofs.YtjkpgfjnidflhaaDoor.F
end
