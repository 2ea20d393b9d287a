import Derived.Below
import Derived.Deep.Draws
import Derived.Deep.AppendLies
import Derived.Maps.AppendAt
import Derived.OwnWalk
import Derived.Laws.BytesArg
import Derived.Laws.MakeOwn
import Derived.Laws.OwnMore
import Derived.Deep.OwnRows
import Derived.Tactics
import Derived.Lib.ConvBytes
import Derived.Laws.Slices
import Derived.WalkKit
import Derived.KernelRfl
import Derived.RowKit3
import Derived.Deep.LoopGhost
import Derived.Deep.QuietTactic
import Derived.BigQuiet
import Derived.WideLaws
import Derived.Deep.DeepCutAuto
import Derived.Deep.CutBlock
import Derived.Deep.RegionHeld3
import Derived.Laws.Rows
import Derived.Lib.AppendStr
import Derived.ArgAppend
import Derived.Laws.IdiomCopy
import Derived.RowKit
import Derived.OrdersHeld
import Derived.Laws.BitsLemmas
import Derived.Laws.StructEq
import Derived.OwnWalkIn
import Derived.WalkSmall
import Derived.Laws.ResultCell
import Derived.RangeFuncRecord
import Derived.ProofKit
import Derived.Lib.Hide
import Derived.Deep.RegionWith
import Derived.Test.YtnddjndgfaefaaaDoorVZF0
import Derived.Test.YtnddjndgfaefaaaDoorVA20
section
namespace Go.Proofs.YtnddjndgfaefaaaDoor.F
open Go.RowKit Go.Proofs.YtnddjndgfaefaaaDoorW.PrintWords Go.Proofs.YtnddjndgfaefaaaDoorW.PrintLast Go.Proofs.YtnddjndgfaefaaaDoorW.PrintMore
set_option linter.unusedVariables false
set_option linter.unusedSimpArgs false
theorem rblk_cell {W : World} {b j : Nat} {cs : Array Value} {t : TypeId} {fr : Nat × Nat} {v : Value} (h : W.heap[b]? = some (.cells cs t fr)) (hv : cs[j]? = some v) : W.cell? ⟨b, j, none⟩ = some v := by
  unfold World.cell?
  rw [show W.heap[(Addr.mk b j none).block]? = _ from h]
  simpa using hv
def regTable : List (List UInt8 × (Bool × Bool × Bool × Bool) × Int) := [
  ([100, 116, 97], (false, true, true, true), 0),
  ([100, 116, 115], (true, true, true, false), 0),
  ([115], (true, false, false, false), 0),
  ([100, 115], (true, false, true, false), 0),
  ([100, 115, 116], (true, true, true, false), 0),
  ([99], (false, false, false, false), 20),
  ([100], (false, false, true, false), 0),
  ([115, 116], (true, true, false, false), 0),
  ([100, 116, 114], (false, true, true, true), 0),
  ([100, 116, 118], (true, true, true, false), 0),
  ([115, 111], (true, false, false, false), 16),
  ([106], (false, false, false, false), 26),
  ([115, 116, 111], (true, true, false, false), 16),
  ([116, 115, 105], (true, true, false, false), 16),
  ([116, 105], (false, true, false, false), 16),
  ([100, 115, 100], (true, false, true, false), 0),
  ([116, 115, 120], (true, true, true, true), 0),
  ([100, 116], (false, true, true, false), 0),
  ([116, 100], (false, true, true, false), 0),
  ([116, 109], (true, true, false, false), 16),
  ([], (false, false, false, false), 0)]
def regsOf (f : List UInt8) : Option (List UInt8 × (Bool × Bool × Bool × Bool) × Int) := regTable.find? (fun r => r.1 == f)
def hasOf (f : List UInt8) (c : Int) : Bool := (ferryref07_has.f 6 ⟨f.toArray⟩ c).getD false
theorem has_table : regTable.all (fun r => [115, 116, 100, 97].all (fun c => ferryref07_has.f 6 ⟨r.1.toArray⟩ c == some (hasOf r.1 c)) && ferryref07_wide.f ⟨r.1.toArray⟩ == some r.2.2) = true := by decide +kernel
def regsIf (f : List UInt8) : Bool × Bool × Bool × Bool :=
  if f = [116, 109] then (true, true, false, false) else
  if f = [116, 115, 120] then (true, true, true, true) else
  if f = [100, 116, 114] then (false, true, true, true) else
  if f = [100, 116, 118] then (true, true, true, false) else
  if f = [99] then (false, false, false, false) else
  if f = [106] then (false, false, false, false) else (hasOf f 115, hasOf f 116, hasOf f 100, hasOf f 97)
theorem regs_table : regTable.all (fun r => regsIf r.1 == r.2.1) = true := by decide +kernel
set_option maxHeartbeats 4000000 in
set_option maxRecDepth 100000 in
theorem registers_walk (form : ByteArray) (h0 h1 h2 h3 : Bool) (hr : regsIf form.toList = (h0, h1, h2, h3)) (hh : ∀ c ∈ [(115 : Int), 116, 100, 97], ferryref07_has.f 6 form c = some (hasOf form.toList c)) (w : World) :
    Calls Tryd.prog 62 #[.string form] w fun e w' => e = .returned (.agg #[.bool h0, .bool h1, .bool h2, .bool h3]) ∧ Below w.heap.size w w' := by
  have H1 := Lib.hid (fun w => ferryref07_has.calls 6 form 115 _ w (hh 115 (by decide)))
  have H2 := Lib.hid (fun w => ferryref07_has.calls 6 form 116 _ w (hh 116 (by decide)))
  have H3 := Lib.hid (fun w => ferryref07_has.calls 6 form 100 _ w (hh 100 (by decide)))
  have H4 := Lib.hid (fun w => ferryref07_has.calls 6 form 97 _ w (hh 97 (by decide)))
  clear hh
  unfold regsIf at hr
  generalize hasOf form.toList 115 = b1 at hr H1
  generalize hasOf form.toList 116 = b2 at hr H2
  generalize hasOf form.toList 100 = b3 at hr H3
  generalize hasOf form.toList 97 = b4 at hr H4
  have R0 := Lib.hid (World.alloc_heap_new w (.cells #[.bool false, .bool false, .bool false, .bool false] 81))
  have B0 := Lib.hid ((Below.refl _ w).alloc (Nat.le_refl _) (.cells #[.bool false, .bool false, .bool false, .bool false] 81))
  by_cases g0 : form.toList = [116, 109]
  · rw [if_pos g0] at hr
    have e0 : (form.toList == [116, 109]) = true := beq_iff_eq.2 g0
    obtain ⟨rfl, rfl, rfl, rfl⟩ := hr
    clear g0
    go_enter Tryd.func62, Tryd.ntmps62
    go_wp2
    refine bodyPost_ret (results_cell_row rfl _ _ w.heap.size 81 #[.bool true, .bool true, .bool false, .bool false] (0, 0) _ rfl ?_ Tryd.underlying81 rfl (by kernel_rfl)) rfl ?_
    · exact World.alloc_heap_new w _
    · exact ⟨rfl, (Below.refl _ w).alloc (Nat.le_refl _) _⟩
  rw [if_neg g0] at hr
  have e0 : (form.toList == [116, 109]) = false := beq_eq_false_iff_ne.2 g0
  clear g0
  by_cases g1 : form.toList = [116, 115, 120]
  · rw [if_pos g1] at hr
    have e1 : (form.toList == [116, 115, 120]) = true := beq_iff_eq.2 g1
    obtain ⟨rfl, rfl, rfl, rfl⟩ := hr
    clear g1
    go_enter Tryd.func62, Tryd.ntmps62
    go_wp2
    refine bodyPost_ret (results_cell_row rfl _ _ w.heap.size 81 #[.bool true, .bool true, .bool true, .bool true] (0, 0) _ rfl ?_ Tryd.underlying81 rfl (by kernel_rfl)) rfl ?_
    · exact World.alloc_heap_new w _
    · exact ⟨rfl, (Below.refl _ w).alloc (Nat.le_refl _) _⟩
  rw [if_neg g1] at hr
  have e1 : (form.toList == [116, 115, 120]) = false := beq_eq_false_iff_ne.2 g1
  clear g1
  by_cases g2 : form.toList = [100, 116, 114]
  · rw [if_pos g2] at hr
    have e2 : (form.toList == [100, 116, 114]) = true := beq_iff_eq.2 g2
    obtain ⟨rfl, rfl, rfl, rfl⟩ := hr
    clear g2
    go_enter Tryd.func62, Tryd.ntmps62
    go_wp2
    refine bodyPost_ret (results_cell_row rfl _ _ w.heap.size 81 #[.bool false, .bool true, .bool true, .bool true] (0, 0) _ rfl ?_ Tryd.underlying81 rfl (by kernel_rfl)) rfl ?_
    · exact World.alloc_heap_new w _
    · exact ⟨rfl, (Below.refl _ w).alloc (Nat.le_refl _) _⟩
  rw [if_neg g2] at hr
  have e2 : (form.toList == [100, 116, 114]) = false := beq_eq_false_iff_ne.2 g2
  clear g2
  by_cases g3 : form.toList = [100, 116, 118]
  · rw [if_pos g3] at hr
    have e3 : (form.toList == [100, 116, 118]) = true := beq_iff_eq.2 g3
    obtain ⟨rfl, rfl, rfl, rfl⟩ := hr
    clear g3
    go_enter Tryd.func62, Tryd.ntmps62
    go_wp2
    refine bodyPost_ret (results_cell_row rfl _ _ w.heap.size 81 #[.bool true, .bool true, .bool true, .bool false] (0, 0) _ rfl ?_ Tryd.underlying81 rfl (by kernel_rfl)) rfl ?_
    · exact World.alloc_heap_new w _
    · exact ⟨rfl, (Below.refl _ w).alloc (Nat.le_refl _) _⟩
  rw [if_neg g3] at hr
  have e3 : (form.toList == [100, 116, 118]) = false := beq_eq_false_iff_ne.2 g3
  clear g3
  by_cases g4 : form.toList = [99]
  · rw [if_pos g4] at hr
    have e4 : (form.toList == [99]) = true := beq_iff_eq.2 g4
    obtain ⟨rfl, rfl, rfl, rfl⟩ := hr
    clear g4
    go_enter Tryd.func62, Tryd.ntmps62
    go_wp2
    refine bodyPost_ret (results_cell_row rfl _ _ w.heap.size 81 #[.bool false, .bool false, .bool false, .bool false] (0, 0) _ rfl ?_ Tryd.underlying81 rfl (by kernel_rfl)) rfl ?_
    · exact World.alloc_heap_new w _
    · exact ⟨rfl, (Below.refl _ w).alloc (Nat.le_refl _) _⟩
  rw [if_neg g4] at hr
  have e4 : (form.toList == [99]) = false := beq_eq_false_iff_ne.2 g4
  clear g4
  by_cases g5 : form.toList = [106]
  · rw [if_pos g5] at hr
    have e5 : (form.toList == [106]) = true := beq_iff_eq.2 g5
    obtain ⟨rfl, rfl, rfl, rfl⟩ := hr
    clear g5
    go_enter Tryd.func62, Tryd.ntmps62
    go_wp2
    refine bodyPost_ret (results_cell_row rfl _ _ w.heap.size 81 #[.bool false, .bool false, .bool false, .bool false] (0, 0) _ rfl ?_ Tryd.underlying81 rfl (by kernel_rfl)) rfl ?_
    · exact World.alloc_heap_new w _
    · exact ⟨rfl, (Below.refl _ w).alloc (Nat.le_refl _) _⟩
  rw [if_neg g5] at hr
  have e5 : (form.toList == [106]) = false := beq_eq_false_iff_ne.2 g5
  clear g5
  obtain ⟨rfl, rfl, rfl, rfl⟩ := hr
  go_enter Tryd.func62, Tryd.ntmps62
  go_wp2_with (first
    | (go_at_call 74; (with_reducible refine (H1.out _).mono ?_); rintro ex w1 ⟨rfl, ⟨n1, rfl⟩⟩)
    | (go_at_call 74; (with_reducible refine (H2.out _).mono ?_); rintro ex w1 ⟨rfl, ⟨n2, rfl⟩⟩)
    | (go_at_call 74; (with_reducible refine (H3.out _).mono ?_); rintro ex w1 ⟨rfl, ⟨n3, rfl⟩⟩)
    | (go_at_call 74; (with_reducible refine (H4.out _).mono ?_); rintro ex w1 ⟨rfl, ⟨n4, rfl⟩⟩))
  refine bodyPost_ret (results_cell_row rfl _ _ w.heap.size 81 #[.bool h0, .bool h1, .bool h2, .bool h3] (0, 0) _ rfl ?_ Tryd.underlying81 rfl (by kernel_rfl)) rfl ?_
  · refine blk_put (cs := #[.bool h0, .bool h1, .bool h2, .bool false]) ?_ 3 _ rfl
    refine blk_put (cs := #[.bool h0, .bool h1, .bool false, .bool false]) ?_ 2 _ rfl
    refine blk_put (cs := #[.bool h0, .bool false, .bool false, .bool false]) ?_ 1 _ rfl
    refine blk_put (cs := #[.bool false, .bool false, .bool false, .bool false]) ?_ 0 _ rfl
    exact blk_drewN R0.out _
  · exact ⟨rfl, ((((pw_below_drewN B0.out _).setCell (p := ⟨w.heap.size, 0, none⟩) (Nat.le_refl _) _).setCell (p := ⟨w.heap.size, 1, none⟩) (Nat.le_refl _) _).setCell (p := ⟨w.heap.size, 2, none⟩) (Nat.le_refl _) _).setCell (p := ⟨w.heap.size, 3, none⟩) (Nat.le_refl _) _⟩
theorem regs_fits (form : ByteArray) (r : List UInt8 × (Bool × Bool × Bool × Bool) × Int) (h : regsOf form.toList = some r) :
    r ∈ regTable ∧ r.1 = form.toList ∧ regsIf form.toList = (r.2.1.1, r.2.1.2.1, r.2.1.2.2.1, r.2.1.2.2.2) ∧ (∀ c ∈ [(115 : Int), 116, 100, 97], ferryref07_has.f 6 form c = some (hasOf form.toList c)) ∧ ferryref07_wide.f form = some r.2.2 := by
  have hm : r ∈ regTable := List.mem_of_find?_eq_some h
  have he : r.1 = form.toList := by simpa using List.find?_some h
  have hf := List.all_eq_true.1 has_table r hm
  have hg := List.all_eq_true.1 regs_table r hm
  have hb : form = ⟨r.1.toArray⟩ := WideShapes.bytes_inj (by rw [← ByteArray.toList_eq, he])
  simp only [Bool.and_eq_true, List.all_eq_true, beq_iff_eq] at hf hg
  refine ⟨hm, he, by rw [← he, hg], fun c hc => ?_, by rw [hb]; exact hf.2⟩
  rw [← he, hb]
  exact hf.1 c hc
theorem registers_calls (form : ByteArray) (r : List UInt8 × (Bool × Bool × Bool × Bool) × Int) (h : regsOf form.toList = some r) (w : World) :
    Calls Tryd.prog 62 #[.string form] w fun e w' => e = .returned (.agg #[.bool r.2.1.1, .bool r.2.1.2.1, .bool r.2.1.2.2.1, .bool r.2.1.2.2.2]) ∧ Below w.heap.size w w' := by
  obtain ⟨h1, h2, h3, h4, h5⟩ := regs_fits form r h
  exact registers_walk form _ _ _ _ h3 h4 w
def fitsOf (n : Int) (h : Bool) : Bool := (ferryref07_fits.f n h).getD false
theorem fits_some (n : Int) (h : Bool) : ferryref07_fits.f n h = some (fitsOf n h) := by
  unfold fitsOf ferryref07_fits.f
  repeat' split
  all_goals rfl
theorem fits_calls (n : Int) (h : Bool) (w : World) : Calls Tryd.prog 63 #[.int .i64 n, .bool h] w fun e w' => e = .returned (.bool (fitsOf n h)) ∧ Drawn0 w w' := ferryref07_fits.calls n h _ w (fits_some n h)
theorem blk_cell2 {W : World} {b j : Nat} {cs : Array Value} {t : TypeId} {fr : Nat × Nat} {v : Value} (h : W.heap[b]? = some (.cells cs t fr)) (hv : cs[j]? = some v) : ∀ n, (W.drewN n).cell? ⟨b, j, none⟩ = some v := fun n => rblk_cell (show (W.drewN n).heap[b]? = _ from h) hv
theorem blk_lt2 {W : World} {b : Nat} {o : Obj} (h : W.heap[b]? = some o) : b < W.heap.size := (Array.getElem?_eq_some_iff.1 h).1
theorem two_blocks2 (w : World) (a b : Obj) : ((w.alloc a).alloc b).heap[w.heap.size]? = some a ∧ ((w.alloc a).alloc b).heap[w.heap.size + 1]? = some b ∧ ((w.alloc a).alloc b).heap.size = w.heap.size + 1 + 1 ∧ Below w.heap.size w ((w.alloc a).alloc b) := by
  have s1 : (w.alloc a).heap.size = w.heap.size + 1 := World.size_alloc _ _
  have c1 : (w.alloc a).heap[w.heap.size]? = some a := World.alloc_heap_new w _
  have c2 : ((w.alloc a).alloc b).heap[w.heap.size + 1]? = some b := by rw [← s1]; exact World.alloc_heap_new _ _
  refine ⟨(Below.heap_alloc _ _ _ (by omega)).trans c1, c2, by rw [World.size_alloc, s1], ?_⟩
  exact ((Below.refl _ w).alloc (Nat.le_refl _) _).alloc (by omega) _
def fitIf (nm form : List UInt8) (f1 f2 f3 f4 g : Bool) (d a : Int) : Bool :=
  !(form == []) && f1 && f2 && f3 && f4 && !g && !(form == [116, 100] && d != 29) && (nm != [101, 120, 116] || decide (wrap64 (d + a) ≤ 31)) && (nm != [105, 110, 115] || decide (a ≤ d))
set_option maxHeartbeats 8000000 in
set_option maxRecDepth 100000 in
theorem fit_walk (nm : ByteArray) (s t d a i : Int) (op sub sa : Int) (form : ByteArray) (h0 h1 h2 h3 : Bool) (wd p : Int) (w : World) (hreg : ∀ w, Calls Tryd.prog 62 #[.string form] w fun e w' => e = .returned (.agg #[.bool h0, .bool h1, .bool h2, .bool h3]) ∧ Below w.heap.size w w') (hwd : ferryref07_wide.f form = some wd) (hsh : ∀ W, (Op.shift .shl .u32 1 .u32 wd).run Tryd.prog W = .ok (.int .u32 p) W)
    (r : Bool) (hr : fitIf nm.toList form.toList (fitsOf s h0) (fitsOf t h1) (fitsOf d h2) (fitsOf a h3) (decide (p ≤ i)) d a = r) :
    Calls Tryd.prog 42 #[.agg #[.string nm, .int .i64 s, .int .i64 t, .int .i64 d, .int .i64 a, .int .u32 i], .agg #[.int .u32 op, .int .u32 sub, .int .u32 sa, .string form]] w fun e w' => e = .returned (.bool r) ∧ Below w.heap.size w w' := by
  have RG := Lib.hid hreg
  have FT := Lib.hid (fun n h w => fits_calls n h w)
  have WD := Lib.hid (fun w => ferryref07_wide.calls form wd w hwd)
  have T2 := Lib.hid (two_blocks2 w (.cells #[.string nm, .int .i64 s, .int .i64 t, .int .i64 d, .int .i64 a, .int .u32 i] 29) (.cells #[.int .u32 op, .int .u32 sub, .int .u32 sa, .string form] 60))
  clear hreg hwd
  unfold fitIf at hr
  cases e0 : (form.toList == [])
  · rw [e0] at hr
    try simp only [Bool.not_true, Bool.not_false, Bool.false_and, Bool.true_and, Bool.and_false, Bool.and_true, Bool.false_or, Bool.true_or, Bool.or_false, Bool.or_true] at hr
    have e0b : (form.toList != []) = true := by rw [bne, e0]; rfl
    cases e1 : (fitsOf s h0)
    · rw [e1] at hr
      try simp only [Bool.not_true, Bool.not_false, Bool.false_and, Bool.true_and, Bool.and_false, Bool.and_true, Bool.false_or, Bool.true_or, Bool.or_false, Bool.or_true] at hr
      subst hr
      go_enter Tryd.func42, Tryd.ntmps42
      go_wp2_with (first
        | (go_at_call 62; (with_reducible refine (RG.out _).mono ?_); rintro ex w1 ⟨rfl, hb1⟩; have B1 := Lib.hid (T2.out.2.2.2.trans (hb1.mono (by rw [T2.out.2.2.1]; omega))); have i1 := (hb1.block _ (by rw [T2.out.2.2.1]; omega)).trans T2.out.1; have r1 := (hb1.block _ (by rw [T2.out.2.2.1]; omega)).trans T2.out.2.1; clear hb1; have A2 := (Below.refl _ w1).alloc (Nat.le_refl _) (.cells #[.bool h0, .bool h1, .bool h2, .bool h3] 81); have I2 := Lib.hid ((A2.block _ (blk_lt2 i1)).trans i1); have R2 := Lib.hid ((A2.block _ (blk_lt2 r1)).trans r1); have H2 := Lib.hid (World.alloc_heap_new w1 (.cells #[.bool h0, .bool h1, .bool h2, .bool h3] 81)); have BB := Lib.hid (B1.out.trans (A2.mono B1.out.size)); clear i1 r1 A2; have x0 := blk_cell2 (j := 0) (v := .string nm) I2.out rfl; have x1 := blk_cell2 (j := 1) (v := .int .i64 s) I2.out rfl; have x2 := blk_cell2 (j := 2) (v := .int .i64 t) I2.out rfl; have x3 := blk_cell2 (j := 3) (v := .int .i64 d) I2.out rfl; have x4 := blk_cell2 (j := 4) (v := .int .i64 a) I2.out rfl; have x5 := blk_cell2 (j := 5) (v := .int .u32 i) I2.out rfl; have y0 := blk_cell2 (j := 0) (v := .int .u32 op) R2.out rfl; have y1 := blk_cell2 (j := 1) (v := .int .u32 sub) R2.out rfl; have y2 := blk_cell2 (j := 2) (v := .int .u32 sa) R2.out rfl; have y3 := blk_cell2 (j := 3) (v := .string form) R2.out rfl; have z0 := blk_cell2 (j := 0) (v := .bool h0) H2.out rfl; have z1 := blk_cell2 (j := 1) (v := .bool h1) H2.out rfl; have z2 := blk_cell2 (j := 2) (v := .bool h2) H2.out rfl; have z3 := blk_cell2 (j := 3) (v := .bool h3) H2.out rfl; have x0' := rblk_cell (j := 0) (v := .string nm) I2.out rfl; have x1' := rblk_cell (j := 1) (v := .int .i64 s) I2.out rfl; have x2' := rblk_cell (j := 2) (v := .int .i64 t) I2.out rfl; have x3' := rblk_cell (j := 3) (v := .int .i64 d) I2.out rfl; have x4' := rblk_cell (j := 4) (v := .int .i64 a) I2.out rfl; have x5' := rblk_cell (j := 5) (v := .int .u32 i) I2.out rfl; have y0' := rblk_cell (j := 0) (v := .int .u32 op) R2.out rfl; have y1' := rblk_cell (j := 1) (v := .int .u32 sub) R2.out rfl; have y2' := rblk_cell (j := 2) (v := .int .u32 sa) R2.out rfl; have y3' := rblk_cell (j := 3) (v := .string form) R2.out rfl; have z0' := rblk_cell (j := 0) (v := .bool h0) H2.out rfl; have z1' := rblk_cell (j := 1) (v := .bool h1) H2.out rfl; have z2' := rblk_cell (j := 2) (v := .bool h2) H2.out rfl; have z3' := rblk_cell (j := 3) (v := .bool h3) H2.out rfl)
        | (go_at_call 63; (with_reducible refine (FT.out _ _ _).mono ?_); rintro ex w2 ⟨rfl, ⟨nd, rfl⟩⟩))
      go_ret
      exact ⟨by first | rfl | simp [*], by first | exact pw_below_drewN BB.out _ | exact pw_below_drewN (pw_below_drewN BB.out _) _ | exact BB.out⟩
    · rw [e1] at hr
      try simp only [Bool.not_true, Bool.not_false, Bool.false_and, Bool.true_and, Bool.and_false, Bool.and_true, Bool.false_or, Bool.true_or, Bool.or_false, Bool.or_true] at hr
      cases e2 : (fitsOf t h1)
      · rw [e2] at hr
        try simp only [Bool.not_true, Bool.not_false, Bool.false_and, Bool.true_and, Bool.and_false, Bool.and_true, Bool.false_or, Bool.true_or, Bool.or_false, Bool.or_true] at hr
        subst hr
        go_enter Tryd.func42, Tryd.ntmps42
        go_wp2_with (first
          | (go_at_call 62; (with_reducible refine (RG.out _).mono ?_); rintro ex w1 ⟨rfl, hb1⟩; have B1 := Lib.hid (T2.out.2.2.2.trans (hb1.mono (by rw [T2.out.2.2.1]; omega))); have i1 := (hb1.block _ (by rw [T2.out.2.2.1]; omega)).trans T2.out.1; have r1 := (hb1.block _ (by rw [T2.out.2.2.1]; omega)).trans T2.out.2.1; clear hb1; have A2 := (Below.refl _ w1).alloc (Nat.le_refl _) (.cells #[.bool h0, .bool h1, .bool h2, .bool h3] 81); have I2 := Lib.hid ((A2.block _ (blk_lt2 i1)).trans i1); have R2 := Lib.hid ((A2.block _ (blk_lt2 r1)).trans r1); have H2 := Lib.hid (World.alloc_heap_new w1 (.cells #[.bool h0, .bool h1, .bool h2, .bool h3] 81)); have BB := Lib.hid (B1.out.trans (A2.mono B1.out.size)); clear i1 r1 A2; have x0 := blk_cell2 (j := 0) (v := .string nm) I2.out rfl; have x1 := blk_cell2 (j := 1) (v := .int .i64 s) I2.out rfl; have x2 := blk_cell2 (j := 2) (v := .int .i64 t) I2.out rfl; have x3 := blk_cell2 (j := 3) (v := .int .i64 d) I2.out rfl; have x4 := blk_cell2 (j := 4) (v := .int .i64 a) I2.out rfl; have x5 := blk_cell2 (j := 5) (v := .int .u32 i) I2.out rfl; have y0 := blk_cell2 (j := 0) (v := .int .u32 op) R2.out rfl; have y1 := blk_cell2 (j := 1) (v := .int .u32 sub) R2.out rfl; have y2 := blk_cell2 (j := 2) (v := .int .u32 sa) R2.out rfl; have y3 := blk_cell2 (j := 3) (v := .string form) R2.out rfl; have z0 := blk_cell2 (j := 0) (v := .bool h0) H2.out rfl; have z1 := blk_cell2 (j := 1) (v := .bool h1) H2.out rfl; have z2 := blk_cell2 (j := 2) (v := .bool h2) H2.out rfl; have z3 := blk_cell2 (j := 3) (v := .bool h3) H2.out rfl; have x0' := rblk_cell (j := 0) (v := .string nm) I2.out rfl; have x1' := rblk_cell (j := 1) (v := .int .i64 s) I2.out rfl; have x2' := rblk_cell (j := 2) (v := .int .i64 t) I2.out rfl; have x3' := rblk_cell (j := 3) (v := .int .i64 d) I2.out rfl; have x4' := rblk_cell (j := 4) (v := .int .i64 a) I2.out rfl; have x5' := rblk_cell (j := 5) (v := .int .u32 i) I2.out rfl; have y0' := rblk_cell (j := 0) (v := .int .u32 op) R2.out rfl; have y1' := rblk_cell (j := 1) (v := .int .u32 sub) R2.out rfl; have y2' := rblk_cell (j := 2) (v := .int .u32 sa) R2.out rfl; have y3' := rblk_cell (j := 3) (v := .string form) R2.out rfl; have z0' := rblk_cell (j := 0) (v := .bool h0) H2.out rfl; have z1' := rblk_cell (j := 1) (v := .bool h1) H2.out rfl; have z2' := rblk_cell (j := 2) (v := .bool h2) H2.out rfl; have z3' := rblk_cell (j := 3) (v := .bool h3) H2.out rfl)
          | (go_at_call 63; (with_reducible refine (FT.out _ _ _).mono ?_); rintro ex w2 ⟨rfl, ⟨nd, rfl⟩⟩))
        go_ret
        exact ⟨by first | rfl | simp [*], by first | exact pw_below_drewN BB.out _ | exact pw_below_drewN (pw_below_drewN BB.out _) _ | exact BB.out⟩
      · rw [e2] at hr
        try simp only [Bool.not_true, Bool.not_false, Bool.false_and, Bool.true_and, Bool.and_false, Bool.and_true, Bool.false_or, Bool.true_or, Bool.or_false, Bool.or_true] at hr
        cases e3 : (fitsOf d h2)
        · rw [e3] at hr
          try simp only [Bool.not_true, Bool.not_false, Bool.false_and, Bool.true_and, Bool.and_false, Bool.and_true, Bool.false_or, Bool.true_or, Bool.or_false, Bool.or_true] at hr
          subst hr
          go_enter Tryd.func42, Tryd.ntmps42
          go_wp2_with (first
            | (go_at_call 62; (with_reducible refine (RG.out _).mono ?_); rintro ex w1 ⟨rfl, hb1⟩; have B1 := Lib.hid (T2.out.2.2.2.trans (hb1.mono (by rw [T2.out.2.2.1]; omega))); have i1 := (hb1.block _ (by rw [T2.out.2.2.1]; omega)).trans T2.out.1; have r1 := (hb1.block _ (by rw [T2.out.2.2.1]; omega)).trans T2.out.2.1; clear hb1; have A2 := (Below.refl _ w1).alloc (Nat.le_refl _) (.cells #[.bool h0, .bool h1, .bool h2, .bool h3] 81); have I2 := Lib.hid ((A2.block _ (blk_lt2 i1)).trans i1); have R2 := Lib.hid ((A2.block _ (blk_lt2 r1)).trans r1); have H2 := Lib.hid (World.alloc_heap_new w1 (.cells #[.bool h0, .bool h1, .bool h2, .bool h3] 81)); have BB := Lib.hid (B1.out.trans (A2.mono B1.out.size)); clear i1 r1 A2; have x0 := blk_cell2 (j := 0) (v := .string nm) I2.out rfl; have x1 := blk_cell2 (j := 1) (v := .int .i64 s) I2.out rfl; have x2 := blk_cell2 (j := 2) (v := .int .i64 t) I2.out rfl; have x3 := blk_cell2 (j := 3) (v := .int .i64 d) I2.out rfl; have x4 := blk_cell2 (j := 4) (v := .int .i64 a) I2.out rfl; have x5 := blk_cell2 (j := 5) (v := .int .u32 i) I2.out rfl; have y0 := blk_cell2 (j := 0) (v := .int .u32 op) R2.out rfl; have y1 := blk_cell2 (j := 1) (v := .int .u32 sub) R2.out rfl; have y2 := blk_cell2 (j := 2) (v := .int .u32 sa) R2.out rfl; have y3 := blk_cell2 (j := 3) (v := .string form) R2.out rfl; have z0 := blk_cell2 (j := 0) (v := .bool h0) H2.out rfl; have z1 := blk_cell2 (j := 1) (v := .bool h1) H2.out rfl; have z2 := blk_cell2 (j := 2) (v := .bool h2) H2.out rfl; have z3 := blk_cell2 (j := 3) (v := .bool h3) H2.out rfl; have x0' := rblk_cell (j := 0) (v := .string nm) I2.out rfl; have x1' := rblk_cell (j := 1) (v := .int .i64 s) I2.out rfl; have x2' := rblk_cell (j := 2) (v := .int .i64 t) I2.out rfl; have x3' := rblk_cell (j := 3) (v := .int .i64 d) I2.out rfl; have x4' := rblk_cell (j := 4) (v := .int .i64 a) I2.out rfl; have x5' := rblk_cell (j := 5) (v := .int .u32 i) I2.out rfl; have y0' := rblk_cell (j := 0) (v := .int .u32 op) R2.out rfl; have y1' := rblk_cell (j := 1) (v := .int .u32 sub) R2.out rfl; have y2' := rblk_cell (j := 2) (v := .int .u32 sa) R2.out rfl; have y3' := rblk_cell (j := 3) (v := .string form) R2.out rfl; have z0' := rblk_cell (j := 0) (v := .bool h0) H2.out rfl; have z1' := rblk_cell (j := 1) (v := .bool h1) H2.out rfl; have z2' := rblk_cell (j := 2) (v := .bool h2) H2.out rfl; have z3' := rblk_cell (j := 3) (v := .bool h3) H2.out rfl)
            | (go_at_call 63; (with_reducible refine (FT.out _ _ _).mono ?_); rintro ex w2 ⟨rfl, ⟨nd, rfl⟩⟩))
          go_ret
          exact ⟨by first | rfl | simp [*], by first | exact pw_below_drewN BB.out _ | exact pw_below_drewN (pw_below_drewN BB.out _) _ | exact BB.out⟩
        · rw [e3] at hr
          try simp only [Bool.not_true, Bool.not_false, Bool.false_and, Bool.true_and, Bool.and_false, Bool.and_true, Bool.false_or, Bool.true_or, Bool.or_false, Bool.or_true] at hr
          cases e4 : (fitsOf a h3)
          · rw [e4] at hr
            try simp only [Bool.not_true, Bool.not_false, Bool.false_and, Bool.true_and, Bool.and_false, Bool.and_true, Bool.false_or, Bool.true_or, Bool.or_false, Bool.or_true] at hr
            subst hr
            go_enter Tryd.func42, Tryd.ntmps42
            go_wp2_with (first
              | (go_at_call 62; (with_reducible refine (RG.out _).mono ?_); rintro ex w1 ⟨rfl, hb1⟩; have B1 := Lib.hid (T2.out.2.2.2.trans (hb1.mono (by rw [T2.out.2.2.1]; omega))); have i1 := (hb1.block _ (by rw [T2.out.2.2.1]; omega)).trans T2.out.1; have r1 := (hb1.block _ (by rw [T2.out.2.2.1]; omega)).trans T2.out.2.1; clear hb1; have A2 := (Below.refl _ w1).alloc (Nat.le_refl _) (.cells #[.bool h0, .bool h1, .bool h2, .bool h3] 81); have I2 := Lib.hid ((A2.block _ (blk_lt2 i1)).trans i1); have R2 := Lib.hid ((A2.block _ (blk_lt2 r1)).trans r1); have H2 := Lib.hid (World.alloc_heap_new w1 (.cells #[.bool h0, .bool h1, .bool h2, .bool h3] 81)); have BB := Lib.hid (B1.out.trans (A2.mono B1.out.size)); clear i1 r1 A2; have x0 := blk_cell2 (j := 0) (v := .string nm) I2.out rfl; have x1 := blk_cell2 (j := 1) (v := .int .i64 s) I2.out rfl; have x2 := blk_cell2 (j := 2) (v := .int .i64 t) I2.out rfl; have x3 := blk_cell2 (j := 3) (v := .int .i64 d) I2.out rfl; have x4 := blk_cell2 (j := 4) (v := .int .i64 a) I2.out rfl; have x5 := blk_cell2 (j := 5) (v := .int .u32 i) I2.out rfl; have y0 := blk_cell2 (j := 0) (v := .int .u32 op) R2.out rfl; have y1 := blk_cell2 (j := 1) (v := .int .u32 sub) R2.out rfl; have y2 := blk_cell2 (j := 2) (v := .int .u32 sa) R2.out rfl; have y3 := blk_cell2 (j := 3) (v := .string form) R2.out rfl; have z0 := blk_cell2 (j := 0) (v := .bool h0) H2.out rfl; have z1 := blk_cell2 (j := 1) (v := .bool h1) H2.out rfl; have z2 := blk_cell2 (j := 2) (v := .bool h2) H2.out rfl; have z3 := blk_cell2 (j := 3) (v := .bool h3) H2.out rfl; have x0' := rblk_cell (j := 0) (v := .string nm) I2.out rfl; have x1' := rblk_cell (j := 1) (v := .int .i64 s) I2.out rfl; have x2' := rblk_cell (j := 2) (v := .int .i64 t) I2.out rfl; have x3' := rblk_cell (j := 3) (v := .int .i64 d) I2.out rfl; have x4' := rblk_cell (j := 4) (v := .int .i64 a) I2.out rfl; have x5' := rblk_cell (j := 5) (v := .int .u32 i) I2.out rfl; have y0' := rblk_cell (j := 0) (v := .int .u32 op) R2.out rfl; have y1' := rblk_cell (j := 1) (v := .int .u32 sub) R2.out rfl; have y2' := rblk_cell (j := 2) (v := .int .u32 sa) R2.out rfl; have y3' := rblk_cell (j := 3) (v := .string form) R2.out rfl; have z0' := rblk_cell (j := 0) (v := .bool h0) H2.out rfl; have z1' := rblk_cell (j := 1) (v := .bool h1) H2.out rfl; have z2' := rblk_cell (j := 2) (v := .bool h2) H2.out rfl; have z3' := rblk_cell (j := 3) (v := .bool h3) H2.out rfl)
              | (go_at_call 63; (with_reducible refine (FT.out _ _ _).mono ?_); rintro ex w2 ⟨rfl, ⟨nd, rfl⟩⟩))
            go_ret
            exact ⟨by first | rfl | simp [*], by first | exact pw_below_drewN BB.out _ | exact pw_below_drewN (pw_below_drewN BB.out _) _ | exact BB.out⟩
          · rw [e4] at hr
            try simp only [Bool.not_true, Bool.not_false, Bool.false_and, Bool.true_and, Bool.and_false, Bool.and_true, Bool.false_or, Bool.true_or, Bool.or_false, Bool.or_true] at hr
            cases e5 : (decide (p ≤ i))
            · rw [e5] at hr
              try simp only [Bool.not_true, Bool.not_false, Bool.false_and, Bool.true_and, Bool.and_false, Bool.and_true, Bool.false_or, Bool.true_or, Bool.or_false, Bool.or_true] at hr
              have e5' : decide (i ≥ p) = false := e5
              cases e6 : (form.toList == [116, 100])
              · rw [e6] at hr
                try simp only [Bool.not_true, Bool.not_false, Bool.false_and, Bool.true_and, Bool.and_false, Bool.and_true, Bool.false_or, Bool.true_or, Bool.or_false, Bool.or_true] at hr
                have e6b : (form.toList != [116, 100]) = true := by rw [bne, e6]; rfl
                cases e8 : (nm.toList != [101, 120, 116])
                · rw [e8] at hr
                  try simp only [Bool.not_true, Bool.not_false, Bool.false_and, Bool.true_and, Bool.and_false, Bool.and_true, Bool.false_or, Bool.true_or, Bool.or_false, Bool.or_true] at hr
                  have e8b : (nm.toList == [101, 120, 116]) = true := by have h_ := e8; rw [bne] at h_; simpa using h_
                  cases e10 : (decide (wrap64 (d + a) ≤ 31))
                  · rw [e10] at hr
                    try simp only [Bool.not_true, Bool.not_false, Bool.false_and, Bool.true_and, Bool.and_false, Bool.and_true, Bool.false_or, Bool.true_or, Bool.or_false, Bool.or_true] at hr
                    subst hr
                    go_enter Tryd.func42, Tryd.ntmps42
                    go_wp2_with (first
                      | (go_at_call 62; (with_reducible refine (RG.out _).mono ?_); rintro ex w1 ⟨rfl, hb1⟩; have B1 := Lib.hid (T2.out.2.2.2.trans (hb1.mono (by rw [T2.out.2.2.1]; omega))); have i1 := (hb1.block _ (by rw [T2.out.2.2.1]; omega)).trans T2.out.1; have r1 := (hb1.block _ (by rw [T2.out.2.2.1]; omega)).trans T2.out.2.1; clear hb1; have A2 := (Below.refl _ w1).alloc (Nat.le_refl _) (.cells #[.bool h0, .bool h1, .bool h2, .bool h3] 81); have I2 := Lib.hid ((A2.block _ (blk_lt2 i1)).trans i1); have R2 := Lib.hid ((A2.block _ (blk_lt2 r1)).trans r1); have H2 := Lib.hid (World.alloc_heap_new w1 (.cells #[.bool h0, .bool h1, .bool h2, .bool h3] 81)); have BB := Lib.hid (B1.out.trans (A2.mono B1.out.size)); clear i1 r1 A2; have x0 := blk_cell2 (j := 0) (v := .string nm) I2.out rfl; have x1 := blk_cell2 (j := 1) (v := .int .i64 s) I2.out rfl; have x2 := blk_cell2 (j := 2) (v := .int .i64 t) I2.out rfl; have x3 := blk_cell2 (j := 3) (v := .int .i64 d) I2.out rfl; have x4 := blk_cell2 (j := 4) (v := .int .i64 a) I2.out rfl; have x5 := blk_cell2 (j := 5) (v := .int .u32 i) I2.out rfl; have y0 := blk_cell2 (j := 0) (v := .int .u32 op) R2.out rfl; have y1 := blk_cell2 (j := 1) (v := .int .u32 sub) R2.out rfl; have y2 := blk_cell2 (j := 2) (v := .int .u32 sa) R2.out rfl; have y3 := blk_cell2 (j := 3) (v := .string form) R2.out rfl; have z0 := blk_cell2 (j := 0) (v := .bool h0) H2.out rfl; have z1 := blk_cell2 (j := 1) (v := .bool h1) H2.out rfl; have z2 := blk_cell2 (j := 2) (v := .bool h2) H2.out rfl; have z3 := blk_cell2 (j := 3) (v := .bool h3) H2.out rfl; have x0' := rblk_cell (j := 0) (v := .string nm) I2.out rfl; have x1' := rblk_cell (j := 1) (v := .int .i64 s) I2.out rfl; have x2' := rblk_cell (j := 2) (v := .int .i64 t) I2.out rfl; have x3' := rblk_cell (j := 3) (v := .int .i64 d) I2.out rfl; have x4' := rblk_cell (j := 4) (v := .int .i64 a) I2.out rfl; have x5' := rblk_cell (j := 5) (v := .int .u32 i) I2.out rfl; have y0' := rblk_cell (j := 0) (v := .int .u32 op) R2.out rfl; have y1' := rblk_cell (j := 1) (v := .int .u32 sub) R2.out rfl; have y2' := rblk_cell (j := 2) (v := .int .u32 sa) R2.out rfl; have y3' := rblk_cell (j := 3) (v := .string form) R2.out rfl; have z0' := rblk_cell (j := 0) (v := .bool h0) H2.out rfl; have z1' := rblk_cell (j := 1) (v := .bool h1) H2.out rfl; have z2' := rblk_cell (j := 2) (v := .bool h2) H2.out rfl; have z3' := rblk_cell (j := 3) (v := .bool h3) H2.out rfl)
                      | (go_at_call 63; (with_reducible refine (FT.out _ _ _).mono ?_); rintro ex w2 ⟨rfl, ⟨nd, rfl⟩⟩))
                    repeat (go_quiet (first | (go_at_call 64; (with_reducible refine (WD.out _).mono ?_); rintro e w' ⟨rfl, ⟨nd, rfl⟩⟩; first | exact ⟨rfl, _, World.drewN_drewN _ _ _⟩ | (refine ⟨rfl, ?_⟩; apply Exists.intro; exact (World.drewN_drewN _ _ _).trans (congrArg (World.drewN _) (Nat.add_assoc _ _ _))))); try go_wp2)
                    go_ret
                    exact ⟨by first | rfl | simp [*], by first | exact pw_below_drewN BB.out _ | exact pw_below_drewN (pw_below_drewN BB.out _) _ | exact BB.out⟩
                  · rw [e10] at hr
                    try simp only [Bool.not_true, Bool.not_false, Bool.false_and, Bool.true_and, Bool.and_false, Bool.and_true, Bool.false_or, Bool.true_or, Bool.or_false, Bool.or_true] at hr
                    have e9 : (nm.toList != [105, 110, 115]) = true := by rw [bne_eq_false_iff_eq.1 e8]; decide
                    have e9b : (nm.toList == [105, 110, 115]) = false := by have h_ := e9; rw [bne] at h_; simpa using h_
                    rw [e9] at hr
                    try simp only [Bool.not_true, Bool.not_false, Bool.false_and, Bool.true_and, Bool.and_false, Bool.and_true, Bool.false_or, Bool.true_or, Bool.or_false, Bool.or_true] at hr
                    subst hr
                    go_enter Tryd.func42, Tryd.ntmps42
                    go_wp2_with (first
                      | (go_at_call 62; (with_reducible refine (RG.out _).mono ?_); rintro ex w1 ⟨rfl, hb1⟩; have B1 := Lib.hid (T2.out.2.2.2.trans (hb1.mono (by rw [T2.out.2.2.1]; omega))); have i1 := (hb1.block _ (by rw [T2.out.2.2.1]; omega)).trans T2.out.1; have r1 := (hb1.block _ (by rw [T2.out.2.2.1]; omega)).trans T2.out.2.1; clear hb1; have A2 := (Below.refl _ w1).alloc (Nat.le_refl _) (.cells #[.bool h0, .bool h1, .bool h2, .bool h3] 81); have I2 := Lib.hid ((A2.block _ (blk_lt2 i1)).trans i1); have R2 := Lib.hid ((A2.block _ (blk_lt2 r1)).trans r1); have H2 := Lib.hid (World.alloc_heap_new w1 (.cells #[.bool h0, .bool h1, .bool h2, .bool h3] 81)); have BB := Lib.hid (B1.out.trans (A2.mono B1.out.size)); clear i1 r1 A2; have x0 := blk_cell2 (j := 0) (v := .string nm) I2.out rfl; have x1 := blk_cell2 (j := 1) (v := .int .i64 s) I2.out rfl; have x2 := blk_cell2 (j := 2) (v := .int .i64 t) I2.out rfl; have x3 := blk_cell2 (j := 3) (v := .int .i64 d) I2.out rfl; have x4 := blk_cell2 (j := 4) (v := .int .i64 a) I2.out rfl; have x5 := blk_cell2 (j := 5) (v := .int .u32 i) I2.out rfl; have y0 := blk_cell2 (j := 0) (v := .int .u32 op) R2.out rfl; have y1 := blk_cell2 (j := 1) (v := .int .u32 sub) R2.out rfl; have y2 := blk_cell2 (j := 2) (v := .int .u32 sa) R2.out rfl; have y3 := blk_cell2 (j := 3) (v := .string form) R2.out rfl; have z0 := blk_cell2 (j := 0) (v := .bool h0) H2.out rfl; have z1 := blk_cell2 (j := 1) (v := .bool h1) H2.out rfl; have z2 := blk_cell2 (j := 2) (v := .bool h2) H2.out rfl; have z3 := blk_cell2 (j := 3) (v := .bool h3) H2.out rfl; have x0' := rblk_cell (j := 0) (v := .string nm) I2.out rfl; have x1' := rblk_cell (j := 1) (v := .int .i64 s) I2.out rfl; have x2' := rblk_cell (j := 2) (v := .int .i64 t) I2.out rfl; have x3' := rblk_cell (j := 3) (v := .int .i64 d) I2.out rfl; have x4' := rblk_cell (j := 4) (v := .int .i64 a) I2.out rfl; have x5' := rblk_cell (j := 5) (v := .int .u32 i) I2.out rfl; have y0' := rblk_cell (j := 0) (v := .int .u32 op) R2.out rfl; have y1' := rblk_cell (j := 1) (v := .int .u32 sub) R2.out rfl; have y2' := rblk_cell (j := 2) (v := .int .u32 sa) R2.out rfl; have y3' := rblk_cell (j := 3) (v := .string form) R2.out rfl; have z0' := rblk_cell (j := 0) (v := .bool h0) H2.out rfl; have z1' := rblk_cell (j := 1) (v := .bool h1) H2.out rfl; have z2' := rblk_cell (j := 2) (v := .bool h2) H2.out rfl; have z3' := rblk_cell (j := 3) (v := .bool h3) H2.out rfl)
                      | (go_at_call 63; (with_reducible refine (FT.out _ _ _).mono ?_); rintro ex w2 ⟨rfl, ⟨nd, rfl⟩⟩))
                    repeat (go_quiet (first | (go_at_call 64; (with_reducible refine (WD.out _).mono ?_); rintro e w' ⟨rfl, ⟨nd, rfl⟩⟩; first | exact ⟨rfl, _, World.drewN_drewN _ _ _⟩ | (refine ⟨rfl, ?_⟩; apply Exists.intro; exact (World.drewN_drewN _ _ _).trans (congrArg (World.drewN _) (Nat.add_assoc _ _ _))))); try go_wp2)
                    go_ret
                    exact ⟨by first | rfl | simp [*], by first | exact pw_below_drewN BB.out _ | exact pw_below_drewN (pw_below_drewN BB.out _) _ | exact BB.out⟩
                · rw [e8] at hr
                  try simp only [Bool.not_true, Bool.not_false, Bool.false_and, Bool.true_and, Bool.and_false, Bool.and_true, Bool.false_or, Bool.true_or, Bool.or_false, Bool.or_true] at hr
                  have e8b : (nm.toList == [101, 120, 116]) = false := by have h_ := e8; rw [bne] at h_; simpa using h_
                  cases e9 : (nm.toList != [105, 110, 115])
                  · rw [e9] at hr
                    try simp only [Bool.not_true, Bool.not_false, Bool.false_and, Bool.true_and, Bool.and_false, Bool.and_true, Bool.false_or, Bool.true_or, Bool.or_false, Bool.or_true] at hr
                    have e9b : (nm.toList == [105, 110, 115]) = true := by have h_ := e9; rw [bne] at h_; simpa using h_
                    subst hr
                    go_enter Tryd.func42, Tryd.ntmps42
                    go_wp2_with (first
                      | (go_at_call 62; (with_reducible refine (RG.out _).mono ?_); rintro ex w1 ⟨rfl, hb1⟩; have B1 := Lib.hid (T2.out.2.2.2.trans (hb1.mono (by rw [T2.out.2.2.1]; omega))); have i1 := (hb1.block _ (by rw [T2.out.2.2.1]; omega)).trans T2.out.1; have r1 := (hb1.block _ (by rw [T2.out.2.2.1]; omega)).trans T2.out.2.1; clear hb1; have A2 := (Below.refl _ w1).alloc (Nat.le_refl _) (.cells #[.bool h0, .bool h1, .bool h2, .bool h3] 81); have I2 := Lib.hid ((A2.block _ (blk_lt2 i1)).trans i1); have R2 := Lib.hid ((A2.block _ (blk_lt2 r1)).trans r1); have H2 := Lib.hid (World.alloc_heap_new w1 (.cells #[.bool h0, .bool h1, .bool h2, .bool h3] 81)); have BB := Lib.hid (B1.out.trans (A2.mono B1.out.size)); clear i1 r1 A2; have x0 := blk_cell2 (j := 0) (v := .string nm) I2.out rfl; have x1 := blk_cell2 (j := 1) (v := .int .i64 s) I2.out rfl; have x2 := blk_cell2 (j := 2) (v := .int .i64 t) I2.out rfl; have x3 := blk_cell2 (j := 3) (v := .int .i64 d) I2.out rfl; have x4 := blk_cell2 (j := 4) (v := .int .i64 a) I2.out rfl; have x5 := blk_cell2 (j := 5) (v := .int .u32 i) I2.out rfl; have y0 := blk_cell2 (j := 0) (v := .int .u32 op) R2.out rfl; have y1 := blk_cell2 (j := 1) (v := .int .u32 sub) R2.out rfl; have y2 := blk_cell2 (j := 2) (v := .int .u32 sa) R2.out rfl; have y3 := blk_cell2 (j := 3) (v := .string form) R2.out rfl; have z0 := blk_cell2 (j := 0) (v := .bool h0) H2.out rfl; have z1 := blk_cell2 (j := 1) (v := .bool h1) H2.out rfl; have z2 := blk_cell2 (j := 2) (v := .bool h2) H2.out rfl; have z3 := blk_cell2 (j := 3) (v := .bool h3) H2.out rfl; have x0' := rblk_cell (j := 0) (v := .string nm) I2.out rfl; have x1' := rblk_cell (j := 1) (v := .int .i64 s) I2.out rfl; have x2' := rblk_cell (j := 2) (v := .int .i64 t) I2.out rfl; have x3' := rblk_cell (j := 3) (v := .int .i64 d) I2.out rfl; have x4' := rblk_cell (j := 4) (v := .int .i64 a) I2.out rfl; have x5' := rblk_cell (j := 5) (v := .int .u32 i) I2.out rfl; have y0' := rblk_cell (j := 0) (v := .int .u32 op) R2.out rfl; have y1' := rblk_cell (j := 1) (v := .int .u32 sub) R2.out rfl; have y2' := rblk_cell (j := 2) (v := .int .u32 sa) R2.out rfl; have y3' := rblk_cell (j := 3) (v := .string form) R2.out rfl; have z0' := rblk_cell (j := 0) (v := .bool h0) H2.out rfl; have z1' := rblk_cell (j := 1) (v := .bool h1) H2.out rfl; have z2' := rblk_cell (j := 2) (v := .bool h2) H2.out rfl; have z3' := rblk_cell (j := 3) (v := .bool h3) H2.out rfl)
                      | (go_at_call 63; (with_reducible refine (FT.out _ _ _).mono ?_); rintro ex w2 ⟨rfl, ⟨nd, rfl⟩⟩))
                    repeat (go_quiet (first | (go_at_call 64; (with_reducible refine (WD.out _).mono ?_); rintro e w' ⟨rfl, ⟨nd, rfl⟩⟩; first | exact ⟨rfl, _, World.drewN_drewN _ _ _⟩ | (refine ⟨rfl, ?_⟩; apply Exists.intro; exact (World.drewN_drewN _ _ _).trans (congrArg (World.drewN _) (Nat.add_assoc _ _ _))))); try go_wp2)
                    go_ret
                    exact ⟨by first | rfl | simp [*], by first | exact pw_below_drewN BB.out _ | exact pw_below_drewN (pw_below_drewN BB.out _) _ | exact BB.out⟩
                  · rw [e9] at hr
                    try simp only [Bool.not_true, Bool.not_false, Bool.false_and, Bool.true_and, Bool.and_false, Bool.and_true, Bool.false_or, Bool.true_or, Bool.or_false, Bool.or_true] at hr
                    have e9b : (nm.toList == [105, 110, 115]) = false := by have h_ := e9; rw [bne] at h_; simpa using h_
                    subst hr
                    go_enter Tryd.func42, Tryd.ntmps42
                    go_wp2_with (first
                      | (go_at_call 62; (with_reducible refine (RG.out _).mono ?_); rintro ex w1 ⟨rfl, hb1⟩; have B1 := Lib.hid (T2.out.2.2.2.trans (hb1.mono (by rw [T2.out.2.2.1]; omega))); have i1 := (hb1.block _ (by rw [T2.out.2.2.1]; omega)).trans T2.out.1; have r1 := (hb1.block _ (by rw [T2.out.2.2.1]; omega)).trans T2.out.2.1; clear hb1; have A2 := (Below.refl _ w1).alloc (Nat.le_refl _) (.cells #[.bool h0, .bool h1, .bool h2, .bool h3] 81); have I2 := Lib.hid ((A2.block _ (blk_lt2 i1)).trans i1); have R2 := Lib.hid ((A2.block _ (blk_lt2 r1)).trans r1); have H2 := Lib.hid (World.alloc_heap_new w1 (.cells #[.bool h0, .bool h1, .bool h2, .bool h3] 81)); have BB := Lib.hid (B1.out.trans (A2.mono B1.out.size)); clear i1 r1 A2; have x0 := blk_cell2 (j := 0) (v := .string nm) I2.out rfl; have x1 := blk_cell2 (j := 1) (v := .int .i64 s) I2.out rfl; have x2 := blk_cell2 (j := 2) (v := .int .i64 t) I2.out rfl; have x3 := blk_cell2 (j := 3) (v := .int .i64 d) I2.out rfl; have x4 := blk_cell2 (j := 4) (v := .int .i64 a) I2.out rfl; have x5 := blk_cell2 (j := 5) (v := .int .u32 i) I2.out rfl; have y0 := blk_cell2 (j := 0) (v := .int .u32 op) R2.out rfl; have y1 := blk_cell2 (j := 1) (v := .int .u32 sub) R2.out rfl; have y2 := blk_cell2 (j := 2) (v := .int .u32 sa) R2.out rfl; have y3 := blk_cell2 (j := 3) (v := .string form) R2.out rfl; have z0 := blk_cell2 (j := 0) (v := .bool h0) H2.out rfl; have z1 := blk_cell2 (j := 1) (v := .bool h1) H2.out rfl; have z2 := blk_cell2 (j := 2) (v := .bool h2) H2.out rfl; have z3 := blk_cell2 (j := 3) (v := .bool h3) H2.out rfl; have x0' := rblk_cell (j := 0) (v := .string nm) I2.out rfl; have x1' := rblk_cell (j := 1) (v := .int .i64 s) I2.out rfl; have x2' := rblk_cell (j := 2) (v := .int .i64 t) I2.out rfl; have x3' := rblk_cell (j := 3) (v := .int .i64 d) I2.out rfl; have x4' := rblk_cell (j := 4) (v := .int .i64 a) I2.out rfl; have x5' := rblk_cell (j := 5) (v := .int .u32 i) I2.out rfl; have y0' := rblk_cell (j := 0) (v := .int .u32 op) R2.out rfl; have y1' := rblk_cell (j := 1) (v := .int .u32 sub) R2.out rfl; have y2' := rblk_cell (j := 2) (v := .int .u32 sa) R2.out rfl; have y3' := rblk_cell (j := 3) (v := .string form) R2.out rfl; have z0' := rblk_cell (j := 0) (v := .bool h0) H2.out rfl; have z1' := rblk_cell (j := 1) (v := .bool h1) H2.out rfl; have z2' := rblk_cell (j := 2) (v := .bool h2) H2.out rfl; have z3' := rblk_cell (j := 3) (v := .bool h3) H2.out rfl)
                      | (go_at_call 63; (with_reducible refine (FT.out _ _ _).mono ?_); rintro ex w2 ⟨rfl, ⟨nd, rfl⟩⟩))
                    repeat (go_quiet (first | (go_at_call 64; (with_reducible refine (WD.out _).mono ?_); rintro e w' ⟨rfl, ⟨nd, rfl⟩⟩; first | exact ⟨rfl, _, World.drewN_drewN _ _ _⟩ | (refine ⟨rfl, ?_⟩; apply Exists.intro; exact (World.drewN_drewN _ _ _).trans (congrArg (World.drewN _) (Nat.add_assoc _ _ _))))); try go_wp2)
                    go_ret
                    exact ⟨by first | rfl | simp [*], by first | exact pw_below_drewN BB.out _ | exact pw_below_drewN (pw_below_drewN BB.out _) _ | exact BB.out⟩
              · rw [e6] at hr
                try simp only [Bool.not_true, Bool.not_false, Bool.false_and, Bool.true_and, Bool.and_false, Bool.and_true, Bool.false_or, Bool.true_or, Bool.or_false, Bool.or_true] at hr
                have e6b : (form.toList != [116, 100]) = false := by rw [bne, e6]; rfl
                cases e7 : (d != 29)
                · rw [e7] at hr
                  try simp only [Bool.not_true, Bool.not_false, Bool.false_and, Bool.true_and, Bool.and_false, Bool.and_true, Bool.false_or, Bool.true_or, Bool.or_false, Bool.or_true] at hr
                  have e7b : (d == 29) = true := by have h_ := e7; rw [bne] at h_; simpa using h_
                  cases e8 : (nm.toList != [101, 120, 116])
                  · rw [e8] at hr
                    try simp only [Bool.not_true, Bool.not_false, Bool.false_and, Bool.true_and, Bool.and_false, Bool.and_true, Bool.false_or, Bool.true_or, Bool.or_false, Bool.or_true] at hr
                    have e8b : (nm.toList == [101, 120, 116]) = true := by have h_ := e8; rw [bne] at h_; simpa using h_
                    cases e10 : (decide (wrap64 (d + a) ≤ 31))
                    · rw [e10] at hr
                      try simp only [Bool.not_true, Bool.not_false, Bool.false_and, Bool.true_and, Bool.and_false, Bool.and_true, Bool.false_or, Bool.true_or, Bool.or_false, Bool.or_true] at hr
                      subst hr
                      go_enter Tryd.func42, Tryd.ntmps42
                      go_wp2_with (first
                        | (go_at_call 62; (with_reducible refine (RG.out _).mono ?_); rintro ex w1 ⟨rfl, hb1⟩; have B1 := Lib.hid (T2.out.2.2.2.trans (hb1.mono (by rw [T2.out.2.2.1]; omega))); have i1 := (hb1.block _ (by rw [T2.out.2.2.1]; omega)).trans T2.out.1; have r1 := (hb1.block _ (by rw [T2.out.2.2.1]; omega)).trans T2.out.2.1; clear hb1; have A2 := (Below.refl _ w1).alloc (Nat.le_refl _) (.cells #[.bool h0, .bool h1, .bool h2, .bool h3] 81); have I2 := Lib.hid ((A2.block _ (blk_lt2 i1)).trans i1); have R2 := Lib.hid ((A2.block _ (blk_lt2 r1)).trans r1); have H2 := Lib.hid (World.alloc_heap_new w1 (.cells #[.bool h0, .bool h1, .bool h2, .bool h3] 81)); have BB := Lib.hid (B1.out.trans (A2.mono B1.out.size)); clear i1 r1 A2; have x0 := blk_cell2 (j := 0) (v := .string nm) I2.out rfl; have x1 := blk_cell2 (j := 1) (v := .int .i64 s) I2.out rfl; have x2 := blk_cell2 (j := 2) (v := .int .i64 t) I2.out rfl; have x3 := blk_cell2 (j := 3) (v := .int .i64 d) I2.out rfl; have x4 := blk_cell2 (j := 4) (v := .int .i64 a) I2.out rfl; have x5 := blk_cell2 (j := 5) (v := .int .u32 i) I2.out rfl; have y0 := blk_cell2 (j := 0) (v := .int .u32 op) R2.out rfl; have y1 := blk_cell2 (j := 1) (v := .int .u32 sub) R2.out rfl; have y2 := blk_cell2 (j := 2) (v := .int .u32 sa) R2.out rfl; have y3 := blk_cell2 (j := 3) (v := .string form) R2.out rfl; have z0 := blk_cell2 (j := 0) (v := .bool h0) H2.out rfl; have z1 := blk_cell2 (j := 1) (v := .bool h1) H2.out rfl; have z2 := blk_cell2 (j := 2) (v := .bool h2) H2.out rfl; have z3 := blk_cell2 (j := 3) (v := .bool h3) H2.out rfl; have x0' := rblk_cell (j := 0) (v := .string nm) I2.out rfl; have x1' := rblk_cell (j := 1) (v := .int .i64 s) I2.out rfl; have x2' := rblk_cell (j := 2) (v := .int .i64 t) I2.out rfl; have x3' := rblk_cell (j := 3) (v := .int .i64 d) I2.out rfl; have x4' := rblk_cell (j := 4) (v := .int .i64 a) I2.out rfl; have x5' := rblk_cell (j := 5) (v := .int .u32 i) I2.out rfl; have y0' := rblk_cell (j := 0) (v := .int .u32 op) R2.out rfl; have y1' := rblk_cell (j := 1) (v := .int .u32 sub) R2.out rfl; have y2' := rblk_cell (j := 2) (v := .int .u32 sa) R2.out rfl; have y3' := rblk_cell (j := 3) (v := .string form) R2.out rfl; have z0' := rblk_cell (j := 0) (v := .bool h0) H2.out rfl; have z1' := rblk_cell (j := 1) (v := .bool h1) H2.out rfl; have z2' := rblk_cell (j := 2) (v := .bool h2) H2.out rfl; have z3' := rblk_cell (j := 3) (v := .bool h3) H2.out rfl)
                        | (go_at_call 63; (with_reducible refine (FT.out _ _ _).mono ?_); rintro ex w2 ⟨rfl, ⟨nd, rfl⟩⟩))
                      repeat (go_quiet (first | (go_at_call 64; (with_reducible refine (WD.out _).mono ?_); rintro e w' ⟨rfl, ⟨nd, rfl⟩⟩; first | exact ⟨rfl, _, World.drewN_drewN _ _ _⟩ | (refine ⟨rfl, ?_⟩; apply Exists.intro; exact (World.drewN_drewN _ _ _).trans (congrArg (World.drewN _) (Nat.add_assoc _ _ _))))); try go_wp2)
                      go_ret
                      exact ⟨by first | rfl | simp [*], by first | exact pw_below_drewN BB.out _ | exact pw_below_drewN (pw_below_drewN BB.out _) _ | exact BB.out⟩
                    · rw [e10] at hr
                      try simp only [Bool.not_true, Bool.not_false, Bool.false_and, Bool.true_and, Bool.and_false, Bool.and_true, Bool.false_or, Bool.true_or, Bool.or_false, Bool.or_true] at hr
                      have e9 : (nm.toList != [105, 110, 115]) = true := by rw [bne_eq_false_iff_eq.1 e8]; decide
                      have e9b : (nm.toList == [105, 110, 115]) = false := by have h_ := e9; rw [bne] at h_; simpa using h_
                      rw [e9] at hr
                      try simp only [Bool.not_true, Bool.not_false, Bool.false_and, Bool.true_and, Bool.and_false, Bool.and_true, Bool.false_or, Bool.true_or, Bool.or_false, Bool.or_true] at hr
                      subst hr
                      go_enter Tryd.func42, Tryd.ntmps42
                      go_wp2_with (first
                        | (go_at_call 62; (with_reducible refine (RG.out _).mono ?_); rintro ex w1 ⟨rfl, hb1⟩; have B1 := Lib.hid (T2.out.2.2.2.trans (hb1.mono (by rw [T2.out.2.2.1]; omega))); have i1 := (hb1.block _ (by rw [T2.out.2.2.1]; omega)).trans T2.out.1; have r1 := (hb1.block _ (by rw [T2.out.2.2.1]; omega)).trans T2.out.2.1; clear hb1; have A2 := (Below.refl _ w1).alloc (Nat.le_refl _) (.cells #[.bool h0, .bool h1, .bool h2, .bool h3] 81); have I2 := Lib.hid ((A2.block _ (blk_lt2 i1)).trans i1); have R2 := Lib.hid ((A2.block _ (blk_lt2 r1)).trans r1); have H2 := Lib.hid (World.alloc_heap_new w1 (.cells #[.bool h0, .bool h1, .bool h2, .bool h3] 81)); have BB := Lib.hid (B1.out.trans (A2.mono B1.out.size)); clear i1 r1 A2; have x0 := blk_cell2 (j := 0) (v := .string nm) I2.out rfl; have x1 := blk_cell2 (j := 1) (v := .int .i64 s) I2.out rfl; have x2 := blk_cell2 (j := 2) (v := .int .i64 t) I2.out rfl; have x3 := blk_cell2 (j := 3) (v := .int .i64 d) I2.out rfl; have x4 := blk_cell2 (j := 4) (v := .int .i64 a) I2.out rfl; have x5 := blk_cell2 (j := 5) (v := .int .u32 i) I2.out rfl; have y0 := blk_cell2 (j := 0) (v := .int .u32 op) R2.out rfl; have y1 := blk_cell2 (j := 1) (v := .int .u32 sub) R2.out rfl; have y2 := blk_cell2 (j := 2) (v := .int .u32 sa) R2.out rfl; have y3 := blk_cell2 (j := 3) (v := .string form) R2.out rfl; have z0 := blk_cell2 (j := 0) (v := .bool h0) H2.out rfl; have z1 := blk_cell2 (j := 1) (v := .bool h1) H2.out rfl; have z2 := blk_cell2 (j := 2) (v := .bool h2) H2.out rfl; have z3 := blk_cell2 (j := 3) (v := .bool h3) H2.out rfl; have x0' := rblk_cell (j := 0) (v := .string nm) I2.out rfl; have x1' := rblk_cell (j := 1) (v := .int .i64 s) I2.out rfl; have x2' := rblk_cell (j := 2) (v := .int .i64 t) I2.out rfl; have x3' := rblk_cell (j := 3) (v := .int .i64 d) I2.out rfl; have x4' := rblk_cell (j := 4) (v := .int .i64 a) I2.out rfl; have x5' := rblk_cell (j := 5) (v := .int .u32 i) I2.out rfl; have y0' := rblk_cell (j := 0) (v := .int .u32 op) R2.out rfl; have y1' := rblk_cell (j := 1) (v := .int .u32 sub) R2.out rfl; have y2' := rblk_cell (j := 2) (v := .int .u32 sa) R2.out rfl; have y3' := rblk_cell (j := 3) (v := .string form) R2.out rfl; have z0' := rblk_cell (j := 0) (v := .bool h0) H2.out rfl; have z1' := rblk_cell (j := 1) (v := .bool h1) H2.out rfl; have z2' := rblk_cell (j := 2) (v := .bool h2) H2.out rfl; have z3' := rblk_cell (j := 3) (v := .bool h3) H2.out rfl)
                        | (go_at_call 63; (with_reducible refine (FT.out _ _ _).mono ?_); rintro ex w2 ⟨rfl, ⟨nd, rfl⟩⟩))
                      repeat (go_quiet (first | (go_at_call 64; (with_reducible refine (WD.out _).mono ?_); rintro e w' ⟨rfl, ⟨nd, rfl⟩⟩; first | exact ⟨rfl, _, World.drewN_drewN _ _ _⟩ | (refine ⟨rfl, ?_⟩; apply Exists.intro; exact (World.drewN_drewN _ _ _).trans (congrArg (World.drewN _) (Nat.add_assoc _ _ _))))); try go_wp2)
                      go_ret
                      exact ⟨by first | rfl | simp [*], by first | exact pw_below_drewN BB.out _ | exact pw_below_drewN (pw_below_drewN BB.out _) _ | exact BB.out⟩
                  · rw [e8] at hr
                    try simp only [Bool.not_true, Bool.not_false, Bool.false_and, Bool.true_and, Bool.and_false, Bool.and_true, Bool.false_or, Bool.true_or, Bool.or_false, Bool.or_true] at hr
                    have e8b : (nm.toList == [101, 120, 116]) = false := by have h_ := e8; rw [bne] at h_; simpa using h_
                    cases e9 : (nm.toList != [105, 110, 115])
                    · rw [e9] at hr
                      try simp only [Bool.not_true, Bool.not_false, Bool.false_and, Bool.true_and, Bool.and_false, Bool.and_true, Bool.false_or, Bool.true_or, Bool.or_false, Bool.or_true] at hr
                      have e9b : (nm.toList == [105, 110, 115]) = true := by have h_ := e9; rw [bne] at h_; simpa using h_
                      subst hr
                      go_enter Tryd.func42, Tryd.ntmps42
                      go_wp2_with (first
                        | (go_at_call 62; (with_reducible refine (RG.out _).mono ?_); rintro ex w1 ⟨rfl, hb1⟩; have B1 := Lib.hid (T2.out.2.2.2.trans (hb1.mono (by rw [T2.out.2.2.1]; omega))); have i1 := (hb1.block _ (by rw [T2.out.2.2.1]; omega)).trans T2.out.1; have r1 := (hb1.block _ (by rw [T2.out.2.2.1]; omega)).trans T2.out.2.1; clear hb1; have A2 := (Below.refl _ w1).alloc (Nat.le_refl _) (.cells #[.bool h0, .bool h1, .bool h2, .bool h3] 81); have I2 := Lib.hid ((A2.block _ (blk_lt2 i1)).trans i1); have R2 := Lib.hid ((A2.block _ (blk_lt2 r1)).trans r1); have H2 := Lib.hid (World.alloc_heap_new w1 (.cells #[.bool h0, .bool h1, .bool h2, .bool h3] 81)); have BB := Lib.hid (B1.out.trans (A2.mono B1.out.size)); clear i1 r1 A2; have x0 := blk_cell2 (j := 0) (v := .string nm) I2.out rfl; have x1 := blk_cell2 (j := 1) (v := .int .i64 s) I2.out rfl; have x2 := blk_cell2 (j := 2) (v := .int .i64 t) I2.out rfl; have x3 := blk_cell2 (j := 3) (v := .int .i64 d) I2.out rfl; have x4 := blk_cell2 (j := 4) (v := .int .i64 a) I2.out rfl; have x5 := blk_cell2 (j := 5) (v := .int .u32 i) I2.out rfl; have y0 := blk_cell2 (j := 0) (v := .int .u32 op) R2.out rfl; have y1 := blk_cell2 (j := 1) (v := .int .u32 sub) R2.out rfl; have y2 := blk_cell2 (j := 2) (v := .int .u32 sa) R2.out rfl; have y3 := blk_cell2 (j := 3) (v := .string form) R2.out rfl; have z0 := blk_cell2 (j := 0) (v := .bool h0) H2.out rfl; have z1 := blk_cell2 (j := 1) (v := .bool h1) H2.out rfl; have z2 := blk_cell2 (j := 2) (v := .bool h2) H2.out rfl; have z3 := blk_cell2 (j := 3) (v := .bool h3) H2.out rfl; have x0' := rblk_cell (j := 0) (v := .string nm) I2.out rfl; have x1' := rblk_cell (j := 1) (v := .int .i64 s) I2.out rfl; have x2' := rblk_cell (j := 2) (v := .int .i64 t) I2.out rfl; have x3' := rblk_cell (j := 3) (v := .int .i64 d) I2.out rfl; have x4' := rblk_cell (j := 4) (v := .int .i64 a) I2.out rfl; have x5' := rblk_cell (j := 5) (v := .int .u32 i) I2.out rfl; have y0' := rblk_cell (j := 0) (v := .int .u32 op) R2.out rfl; have y1' := rblk_cell (j := 1) (v := .int .u32 sub) R2.out rfl; have y2' := rblk_cell (j := 2) (v := .int .u32 sa) R2.out rfl; have y3' := rblk_cell (j := 3) (v := .string form) R2.out rfl; have z0' := rblk_cell (j := 0) (v := .bool h0) H2.out rfl; have z1' := rblk_cell (j := 1) (v := .bool h1) H2.out rfl; have z2' := rblk_cell (j := 2) (v := .bool h2) H2.out rfl; have z3' := rblk_cell (j := 3) (v := .bool h3) H2.out rfl)
                        | (go_at_call 63; (with_reducible refine (FT.out _ _ _).mono ?_); rintro ex w2 ⟨rfl, ⟨nd, rfl⟩⟩))
                      repeat (go_quiet (first | (go_at_call 64; (with_reducible refine (WD.out _).mono ?_); rintro e w' ⟨rfl, ⟨nd, rfl⟩⟩; first | exact ⟨rfl, _, World.drewN_drewN _ _ _⟩ | (refine ⟨rfl, ?_⟩; apply Exists.intro; exact (World.drewN_drewN _ _ _).trans (congrArg (World.drewN _) (Nat.add_assoc _ _ _))))); try go_wp2)
                      go_ret
                      exact ⟨by first | rfl | simp [*], by first | exact pw_below_drewN BB.out _ | exact pw_below_drewN (pw_below_drewN BB.out _) _ | exact BB.out⟩
                    · rw [e9] at hr
                      try simp only [Bool.not_true, Bool.not_false, Bool.false_and, Bool.true_and, Bool.and_false, Bool.and_true, Bool.false_or, Bool.true_or, Bool.or_false, Bool.or_true] at hr
                      have e9b : (nm.toList == [105, 110, 115]) = false := by have h_ := e9; rw [bne] at h_; simpa using h_
                      subst hr
                      go_enter Tryd.func42, Tryd.ntmps42
                      go_wp2_with (first
                        | (go_at_call 62; (with_reducible refine (RG.out _).mono ?_); rintro ex w1 ⟨rfl, hb1⟩; have B1 := Lib.hid (T2.out.2.2.2.trans (hb1.mono (by rw [T2.out.2.2.1]; omega))); have i1 := (hb1.block _ (by rw [T2.out.2.2.1]; omega)).trans T2.out.1; have r1 := (hb1.block _ (by rw [T2.out.2.2.1]; omega)).trans T2.out.2.1; clear hb1; have A2 := (Below.refl _ w1).alloc (Nat.le_refl _) (.cells #[.bool h0, .bool h1, .bool h2, .bool h3] 81); have I2 := Lib.hid ((A2.block _ (blk_lt2 i1)).trans i1); have R2 := Lib.hid ((A2.block _ (blk_lt2 r1)).trans r1); have H2 := Lib.hid (World.alloc_heap_new w1 (.cells #[.bool h0, .bool h1, .bool h2, .bool h3] 81)); have BB := Lib.hid (B1.out.trans (A2.mono B1.out.size)); clear i1 r1 A2; have x0 := blk_cell2 (j := 0) (v := .string nm) I2.out rfl; have x1 := blk_cell2 (j := 1) (v := .int .i64 s) I2.out rfl; have x2 := blk_cell2 (j := 2) (v := .int .i64 t) I2.out rfl; have x3 := blk_cell2 (j := 3) (v := .int .i64 d) I2.out rfl; have x4 := blk_cell2 (j := 4) (v := .int .i64 a) I2.out rfl; have x5 := blk_cell2 (j := 5) (v := .int .u32 i) I2.out rfl; have y0 := blk_cell2 (j := 0) (v := .int .u32 op) R2.out rfl; have y1 := blk_cell2 (j := 1) (v := .int .u32 sub) R2.out rfl; have y2 := blk_cell2 (j := 2) (v := .int .u32 sa) R2.out rfl; have y3 := blk_cell2 (j := 3) (v := .string form) R2.out rfl; have z0 := blk_cell2 (j := 0) (v := .bool h0) H2.out rfl; have z1 := blk_cell2 (j := 1) (v := .bool h1) H2.out rfl; have z2 := blk_cell2 (j := 2) (v := .bool h2) H2.out rfl; have z3 := blk_cell2 (j := 3) (v := .bool h3) H2.out rfl; have x0' := rblk_cell (j := 0) (v := .string nm) I2.out rfl; have x1' := rblk_cell (j := 1) (v := .int .i64 s) I2.out rfl; have x2' := rblk_cell (j := 2) (v := .int .i64 t) I2.out rfl; have x3' := rblk_cell (j := 3) (v := .int .i64 d) I2.out rfl; have x4' := rblk_cell (j := 4) (v := .int .i64 a) I2.out rfl; have x5' := rblk_cell (j := 5) (v := .int .u32 i) I2.out rfl; have y0' := rblk_cell (j := 0) (v := .int .u32 op) R2.out rfl; have y1' := rblk_cell (j := 1) (v := .int .u32 sub) R2.out rfl; have y2' := rblk_cell (j := 2) (v := .int .u32 sa) R2.out rfl; have y3' := rblk_cell (j := 3) (v := .string form) R2.out rfl; have z0' := rblk_cell (j := 0) (v := .bool h0) H2.out rfl; have z1' := rblk_cell (j := 1) (v := .bool h1) H2.out rfl; have z2' := rblk_cell (j := 2) (v := .bool h2) H2.out rfl; have z3' := rblk_cell (j := 3) (v := .bool h3) H2.out rfl)
                        | (go_at_call 63; (with_reducible refine (FT.out _ _ _).mono ?_); rintro ex w2 ⟨rfl, ⟨nd, rfl⟩⟩))
                      repeat (go_quiet (first | (go_at_call 64; (with_reducible refine (WD.out _).mono ?_); rintro e w' ⟨rfl, ⟨nd, rfl⟩⟩; first | exact ⟨rfl, _, World.drewN_drewN _ _ _⟩ | (refine ⟨rfl, ?_⟩; apply Exists.intro; exact (World.drewN_drewN _ _ _).trans (congrArg (World.drewN _) (Nat.add_assoc _ _ _))))); try go_wp2)
                      go_ret
                      exact ⟨by first | rfl | simp [*], by first | exact pw_below_drewN BB.out _ | exact pw_below_drewN (pw_below_drewN BB.out _) _ | exact BB.out⟩
                · rw [e7] at hr
                  try simp only [Bool.not_true, Bool.not_false, Bool.false_and, Bool.true_and, Bool.and_false, Bool.and_true, Bool.false_or, Bool.true_or, Bool.or_false, Bool.or_true] at hr
                  have e7b : (d == 29) = false := by have h_ := e7; rw [bne] at h_; simpa using h_
                  subst hr
                  go_enter Tryd.func42, Tryd.ntmps42
                  go_wp2_with (first
                    | (go_at_call 62; (with_reducible refine (RG.out _).mono ?_); rintro ex w1 ⟨rfl, hb1⟩; have B1 := Lib.hid (T2.out.2.2.2.trans (hb1.mono (by rw [T2.out.2.2.1]; omega))); have i1 := (hb1.block _ (by rw [T2.out.2.2.1]; omega)).trans T2.out.1; have r1 := (hb1.block _ (by rw [T2.out.2.2.1]; omega)).trans T2.out.2.1; clear hb1; have A2 := (Below.refl _ w1).alloc (Nat.le_refl _) (.cells #[.bool h0, .bool h1, .bool h2, .bool h3] 81); have I2 := Lib.hid ((A2.block _ (blk_lt2 i1)).trans i1); have R2 := Lib.hid ((A2.block _ (blk_lt2 r1)).trans r1); have H2 := Lib.hid (World.alloc_heap_new w1 (.cells #[.bool h0, .bool h1, .bool h2, .bool h3] 81)); have BB := Lib.hid (B1.out.trans (A2.mono B1.out.size)); clear i1 r1 A2; have x0 := blk_cell2 (j := 0) (v := .string nm) I2.out rfl; have x1 := blk_cell2 (j := 1) (v := .int .i64 s) I2.out rfl; have x2 := blk_cell2 (j := 2) (v := .int .i64 t) I2.out rfl; have x3 := blk_cell2 (j := 3) (v := .int .i64 d) I2.out rfl; have x4 := blk_cell2 (j := 4) (v := .int .i64 a) I2.out rfl; have x5 := blk_cell2 (j := 5) (v := .int .u32 i) I2.out rfl; have y0 := blk_cell2 (j := 0) (v := .int .u32 op) R2.out rfl; have y1 := blk_cell2 (j := 1) (v := .int .u32 sub) R2.out rfl; have y2 := blk_cell2 (j := 2) (v := .int .u32 sa) R2.out rfl; have y3 := blk_cell2 (j := 3) (v := .string form) R2.out rfl; have z0 := blk_cell2 (j := 0) (v := .bool h0) H2.out rfl; have z1 := blk_cell2 (j := 1) (v := .bool h1) H2.out rfl; have z2 := blk_cell2 (j := 2) (v := .bool h2) H2.out rfl; have z3 := blk_cell2 (j := 3) (v := .bool h3) H2.out rfl; have x0' := rblk_cell (j := 0) (v := .string nm) I2.out rfl; have x1' := rblk_cell (j := 1) (v := .int .i64 s) I2.out rfl; have x2' := rblk_cell (j := 2) (v := .int .i64 t) I2.out rfl; have x3' := rblk_cell (j := 3) (v := .int .i64 d) I2.out rfl; have x4' := rblk_cell (j := 4) (v := .int .i64 a) I2.out rfl; have x5' := rblk_cell (j := 5) (v := .int .u32 i) I2.out rfl; have y0' := rblk_cell (j := 0) (v := .int .u32 op) R2.out rfl; have y1' := rblk_cell (j := 1) (v := .int .u32 sub) R2.out rfl; have y2' := rblk_cell (j := 2) (v := .int .u32 sa) R2.out rfl; have y3' := rblk_cell (j := 3) (v := .string form) R2.out rfl; have z0' := rblk_cell (j := 0) (v := .bool h0) H2.out rfl; have z1' := rblk_cell (j := 1) (v := .bool h1) H2.out rfl; have z2' := rblk_cell (j := 2) (v := .bool h2) H2.out rfl; have z3' := rblk_cell (j := 3) (v := .bool h3) H2.out rfl)
                    | (go_at_call 63; (with_reducible refine (FT.out _ _ _).mono ?_); rintro ex w2 ⟨rfl, ⟨nd, rfl⟩⟩))
                  repeat (go_quiet (first | (go_at_call 64; (with_reducible refine (WD.out _).mono ?_); rintro e w' ⟨rfl, ⟨nd, rfl⟩⟩; first | exact ⟨rfl, _, World.drewN_drewN _ _ _⟩ | (refine ⟨rfl, ?_⟩; apply Exists.intro; exact (World.drewN_drewN _ _ _).trans (congrArg (World.drewN _) (Nat.add_assoc _ _ _))))); try go_wp2)
                  go_ret
                  exact ⟨by first | rfl | simp [*], by first | exact pw_below_drewN BB.out _ | exact pw_below_drewN (pw_below_drewN BB.out _) _ | exact BB.out⟩
            · rw [e5] at hr
              try simp only [Bool.not_true, Bool.not_false, Bool.false_and, Bool.true_and, Bool.and_false, Bool.and_true, Bool.false_or, Bool.true_or, Bool.or_false, Bool.or_true] at hr
              have e5' : decide (i ≥ p) = true := e5
              subst hr
              go_enter Tryd.func42, Tryd.ntmps42
              go_wp2_with (first
                | (go_at_call 62; (with_reducible refine (RG.out _).mono ?_); rintro ex w1 ⟨rfl, hb1⟩; have B1 := Lib.hid (T2.out.2.2.2.trans (hb1.mono (by rw [T2.out.2.2.1]; omega))); have i1 := (hb1.block _ (by rw [T2.out.2.2.1]; omega)).trans T2.out.1; have r1 := (hb1.block _ (by rw [T2.out.2.2.1]; omega)).trans T2.out.2.1; clear hb1; have A2 := (Below.refl _ w1).alloc (Nat.le_refl _) (.cells #[.bool h0, .bool h1, .bool h2, .bool h3] 81); have I2 := Lib.hid ((A2.block _ (blk_lt2 i1)).trans i1); have R2 := Lib.hid ((A2.block _ (blk_lt2 r1)).trans r1); have H2 := Lib.hid (World.alloc_heap_new w1 (.cells #[.bool h0, .bool h1, .bool h2, .bool h3] 81)); have BB := Lib.hid (B1.out.trans (A2.mono B1.out.size)); clear i1 r1 A2; have x0 := blk_cell2 (j := 0) (v := .string nm) I2.out rfl; have x1 := blk_cell2 (j := 1) (v := .int .i64 s) I2.out rfl; have x2 := blk_cell2 (j := 2) (v := .int .i64 t) I2.out rfl; have x3 := blk_cell2 (j := 3) (v := .int .i64 d) I2.out rfl; have x4 := blk_cell2 (j := 4) (v := .int .i64 a) I2.out rfl; have x5 := blk_cell2 (j := 5) (v := .int .u32 i) I2.out rfl; have y0 := blk_cell2 (j := 0) (v := .int .u32 op) R2.out rfl; have y1 := blk_cell2 (j := 1) (v := .int .u32 sub) R2.out rfl; have y2 := blk_cell2 (j := 2) (v := .int .u32 sa) R2.out rfl; have y3 := blk_cell2 (j := 3) (v := .string form) R2.out rfl; have z0 := blk_cell2 (j := 0) (v := .bool h0) H2.out rfl; have z1 := blk_cell2 (j := 1) (v := .bool h1) H2.out rfl; have z2 := blk_cell2 (j := 2) (v := .bool h2) H2.out rfl; have z3 := blk_cell2 (j := 3) (v := .bool h3) H2.out rfl; have x0' := rblk_cell (j := 0) (v := .string nm) I2.out rfl; have x1' := rblk_cell (j := 1) (v := .int .i64 s) I2.out rfl; have x2' := rblk_cell (j := 2) (v := .int .i64 t) I2.out rfl; have x3' := rblk_cell (j := 3) (v := .int .i64 d) I2.out rfl; have x4' := rblk_cell (j := 4) (v := .int .i64 a) I2.out rfl; have x5' := rblk_cell (j := 5) (v := .int .u32 i) I2.out rfl; have y0' := rblk_cell (j := 0) (v := .int .u32 op) R2.out rfl; have y1' := rblk_cell (j := 1) (v := .int .u32 sub) R2.out rfl; have y2' := rblk_cell (j := 2) (v := .int .u32 sa) R2.out rfl; have y3' := rblk_cell (j := 3) (v := .string form) R2.out rfl; have z0' := rblk_cell (j := 0) (v := .bool h0) H2.out rfl; have z1' := rblk_cell (j := 1) (v := .bool h1) H2.out rfl; have z2' := rblk_cell (j := 2) (v := .bool h2) H2.out rfl; have z3' := rblk_cell (j := 3) (v := .bool h3) H2.out rfl)
                | (go_at_call 63; (with_reducible refine (FT.out _ _ _).mono ?_); rintro ex w2 ⟨rfl, ⟨nd, rfl⟩⟩))
              repeat (go_quiet (first | (go_at_call 64; (with_reducible refine (WD.out _).mono ?_); rintro e w' ⟨rfl, ⟨nd, rfl⟩⟩; first | exact ⟨rfl, _, World.drewN_drewN _ _ _⟩ | (refine ⟨rfl, ?_⟩; apply Exists.intro; exact (World.drewN_drewN _ _ _).trans (congrArg (World.drewN _) (Nat.add_assoc _ _ _))))); try go_wp2)
              go_ret
              exact ⟨by first | rfl | simp [*], by first | exact pw_below_drewN BB.out _ | exact pw_below_drewN (pw_below_drewN BB.out _) _ | exact BB.out⟩
  · rw [e0] at hr
    try simp only [Bool.not_true, Bool.not_false, Bool.false_and, Bool.true_and, Bool.and_false, Bool.and_true, Bool.false_or, Bool.true_or, Bool.or_false, Bool.or_true] at hr
    have e0b : (form.toList != []) = false := by rw [bne, e0]; rfl
    subst hr
    go_enter Tryd.func42, Tryd.ntmps42
    go_wp2_with (first
      | (go_at_call 62; (with_reducible refine (RG.out _).mono ?_); rintro ex w1 ⟨rfl, hb1⟩; have B1 := Lib.hid (T2.out.2.2.2.trans (hb1.mono (by rw [T2.out.2.2.1]; omega))); have i1 := (hb1.block _ (by rw [T2.out.2.2.1]; omega)).trans T2.out.1; have r1 := (hb1.block _ (by rw [T2.out.2.2.1]; omega)).trans T2.out.2.1; clear hb1; have A2 := (Below.refl _ w1).alloc (Nat.le_refl _) (.cells #[.bool h0, .bool h1, .bool h2, .bool h3] 81); have I2 := Lib.hid ((A2.block _ (blk_lt2 i1)).trans i1); have R2 := Lib.hid ((A2.block _ (blk_lt2 r1)).trans r1); have H2 := Lib.hid (World.alloc_heap_new w1 (.cells #[.bool h0, .bool h1, .bool h2, .bool h3] 81)); have BB := Lib.hid (B1.out.trans (A2.mono B1.out.size)); clear i1 r1 A2; have x0 := blk_cell2 (j := 0) (v := .string nm) I2.out rfl; have x1 := blk_cell2 (j := 1) (v := .int .i64 s) I2.out rfl; have x2 := blk_cell2 (j := 2) (v := .int .i64 t) I2.out rfl; have x3 := blk_cell2 (j := 3) (v := .int .i64 d) I2.out rfl; have x4 := blk_cell2 (j := 4) (v := .int .i64 a) I2.out rfl; have x5 := blk_cell2 (j := 5) (v := .int .u32 i) I2.out rfl; have y0 := blk_cell2 (j := 0) (v := .int .u32 op) R2.out rfl; have y1 := blk_cell2 (j := 1) (v := .int .u32 sub) R2.out rfl; have y2 := blk_cell2 (j := 2) (v := .int .u32 sa) R2.out rfl; have y3 := blk_cell2 (j := 3) (v := .string form) R2.out rfl; have z0 := blk_cell2 (j := 0) (v := .bool h0) H2.out rfl; have z1 := blk_cell2 (j := 1) (v := .bool h1) H2.out rfl; have z2 := blk_cell2 (j := 2) (v := .bool h2) H2.out rfl; have z3 := blk_cell2 (j := 3) (v := .bool h3) H2.out rfl; have x0' := rblk_cell (j := 0) (v := .string nm) I2.out rfl; have x1' := rblk_cell (j := 1) (v := .int .i64 s) I2.out rfl; have x2' := rblk_cell (j := 2) (v := .int .i64 t) I2.out rfl; have x3' := rblk_cell (j := 3) (v := .int .i64 d) I2.out rfl; have x4' := rblk_cell (j := 4) (v := .int .i64 a) I2.out rfl; have x5' := rblk_cell (j := 5) (v := .int .u32 i) I2.out rfl; have y0' := rblk_cell (j := 0) (v := .int .u32 op) R2.out rfl; have y1' := rblk_cell (j := 1) (v := .int .u32 sub) R2.out rfl; have y2' := rblk_cell (j := 2) (v := .int .u32 sa) R2.out rfl; have y3' := rblk_cell (j := 3) (v := .string form) R2.out rfl; have z0' := rblk_cell (j := 0) (v := .bool h0) H2.out rfl; have z1' := rblk_cell (j := 1) (v := .bool h1) H2.out rfl; have z2' := rblk_cell (j := 2) (v := .bool h2) H2.out rfl; have z3' := rblk_cell (j := 3) (v := .bool h3) H2.out rfl)
      | (go_at_call 63; (with_reducible refine (FT.out _ _ _).mono ?_); rintro ex w2 ⟨rfl, ⟨nd, rfl⟩⟩))
    go_ret
    exact ⟨by first | rfl | simp [*], by first | exact pw_below_drewN BB.out _ | exact pw_below_drewN (pw_below_drewN BB.out _) _ | exact BB.out⟩
end Go.Proofs.YtnddjndgfaefaaaDoor.F
end
