/- Package wide: Hi and Lo behind an instruction. Condition: the table of blanks. -/
import Derived.WalkKit
import Derived.RangeFuncRecord
import Derived.ProofKit
import Derived.Shelf.RegionOpen
import Derived.Shelf.Abstract
import Derived.OwnWalkIn
import Derived.Lib.Hide
import Derived.Test.YtommcnppgodhgaaDoorF0
import Derived.Test.YtommcnppgodhgaaDoorHWide
import Derived.Test.YtommcnppgodhgaaDoorFSlicesContainsStringString
import Derived.Test.YtommcnppgodhgaaDoorFStringsCutSuffix
import Derived.Test.YtommcnppgodhgaaDoorFWidePart
namespace Go.Proofs.YtommcnppgodhgaaDoor.F
open Go.RowKit Go.Shelf Go.Proofs.YtommcnppgodhgaaDoorW.PrintWords
set_option linter.unusedVariables false
set_option linter.unusedSimpArgs false
theorem run_store_func {P : Program} {w : World} {a : Addr} {m : Mode} (f : Fn) (b c : Array Value) : (store a (.func f b c) m).run P w = stored P w a (.func f b c) m := run_store P w a _ m rfl
attribute [local go_sem] run_store_func

-- HAND fn=ferry/wide.Do ; rounds=0 ; making=1 ; laid=1
def wideBoth (h l : Int) : Int := bits .or .u64 (IntKind.u64.wrap (IntKind.u64.wrap h * 4294967296)) (IntKind.u64.wrap l)
def wide_Do.f (a0 : ByteArray) (a1 a2 a3 a4 : Int) : Option (Int × Int) := (strings_CutSuffix.f a0 ⟨#[117]⟩).bind fun c =>
  if a0.toList ∈ wideNames then
    (if c.1.toList = [109, 117, 108, 116] then wide_part.f (wideTimes c.2 a1 a2)
    else if c.1.toList = [109, 97, 100, 100] then wide_part.f (IntKind.u64.wrap (wideBoth a3 a4 + wideTimes c.2 a1 a2))
    else if c.1.toList = [109, 115, 117, 98] then wide_part.f (IntKind.u64.wrap (wideBoth a3 a4 - wideTimes c.2 a1 a2))
    else if c.1.toList = [100, 105, 118] then wideQuo c.2 a1 a2
    else if a0.toList = [109, 116, 104, 105] then some (a1, a4)
    else some (a3, a1))
  else some (a3, a4)
theorem three_new (w : World) (v1 v2 v3 : Value) (t1 t2 t3 : TypeId) (W : World) (hW : W = ((w.alloc (.cells #[v1] t1)).alloc (.cells #[v2] t2)).alloc (.cells #[v3] t3)) :
    W.cell? ⟨w.heap.size, 0, none⟩ = some v1 ∧ W.cell? ⟨w.heap.size + 1, 0, none⟩ = some v2 ∧ W.cell? ⟨w.heap.size + 1 + 1, 0, none⟩ = some v3 ∧ W.frozen? ⟨w.heap.size + 1 + 1, 0, none⟩ = false ∧ Below w.heap.size w W ∧ W.heap.size = w.heap.size + 3 := by
  subst hW
  have s1 : (w.alloc (.cells #[v1] t1)).heap.size = w.heap.size + 1 := World.size_alloc _ _
  have s2 : ((w.alloc (.cells #[v1] t1)).alloc (.cells #[v2] t2)).heap.size = w.heap.size + 1 + 1 := by rw [World.size_alloc, s1]
  have c1 : (w.alloc (.cells #[v1] t1)).heap[w.heap.size]? = some (.cells #[v1] t1 (0, 0)) := World.alloc_heap_new w _
  have c2 : ((w.alloc (.cells #[v1] t1)).alloc (.cells #[v2] t2)).heap[w.heap.size + 1]? = some (.cells #[v2] t2 (0, 0)) := by rw [← s1]; exact World.alloc_heap_new _ _
  have c3 : (((w.alloc (.cells #[v1] t1)).alloc (.cells #[v2] t2)).alloc (.cells #[v3] t3)).heap[w.heap.size + 1 + 1]? = some (.cells #[v3] t3 (0, 0)) := by rw [← s2]; exact World.alloc_heap_new _ _
  have c1' : (((w.alloc (.cells #[v1] t1)).alloc (.cells #[v2] t2)).alloc (.cells #[v3] t3)).heap[w.heap.size]? = some (.cells #[v1] t1 (0, 0)) := (Below.heap_alloc _ _ _ (by omega)).trans ((Below.heap_alloc _ _ _ (by omega)).trans c1)
  have c2' : (((w.alloc (.cells #[v1] t1)).alloc (.cells #[v2] t2)).alloc (.cells #[v3] t3)).heap[w.heap.size + 1]? = some (.cells #[v2] t2 (0, 0)) := (Below.heap_alloc _ _ _ (by omega)).trans c2
  refine ⟨?_, ?_, ?_, ?_, ?_, ?_⟩
  · unfold World.cell?; rw [c1']; rfl
  · unfold World.cell?; rw [c2']; rfl
  · unfold World.cell?; rw [c3]; rfl
  · unfold World.frozen?; rw [c3]; rfl
  · exact (((Below.refl _ w).alloc (Nat.le_refl _) _).alloc (by omega) _).alloc (by omega) _
  · rw [World.size_alloc, s2]
set_option maxHeartbeats 8000000 in
set_option maxRecDepth 100000 in
theorem wide_Do.calls_no_false (a0 : ByteArray) (a1 a2 a3 a4 : Int) (r1 r2 : Int) (w : World) (hL : Laid w) (k : ByteArray) (hcut : strings_CutSuffix.f a0 ⟨#[117]⟩ = some (k, false)) (hk : ¬ a0.toList ∈ wideNames) (h : some (a3, a4) = some (r1, r2)) :
    Calls Tryd.prog 8 #[.string a0, .int .u32 a1, .int .u32 a2, .int .u32 a3, .int .u32 a4] w fun e w' => e = .returned (.tuple #[.int .u32 r1, .int .u32 r2]) ∧ Below w.heap.size w w' := by
  have KN := Lib.hid (fun w hL => wide_Known.calls a0 _ w hL rfl)
  have CUT := Lib.hid (fun w => strings_CutSuffix.calls a0 ⟨#[117]⟩ k false w hcut)
  obtain ⟨rfl, rfl⟩ := Prod.mk.inj (Option.some.inj h)
  have dk : decide (a0.toList ∈ wideNames) = false := decide_eq_false hk
  clear hk hcut
  have TH := Lib.hid (three_new w (.int .u32 a1) (.int .u32 a2) (.func (.func 22) #[] #[]) 22 22 35)
  go_enter Tryd.func8, Tryd.ntmps8
  go_wp2_with (go_at_call 23; refine (CUT.out _).mono ?_; rintro e w' ⟨rfl, ⟨nd, rfl⟩⟩)
  go_wp2_with (fail)
  obtain ⟨y1, y2, y3, y4, y5, y6⟩ := TH.out _ rfl
  obtain ⟨W2, hW2⟩ : ∃ W2, ((((w.alloc (.cells #[.int .u32 a1] 22)).alloc (.cells #[.int .u32 a2] 22)).alloc (.cells #[.func (.func 22) #[] #[]] 35))).drewN nd = W2 := ⟨_, rfl⟩
  rw [hW2]
  have z : W2.cell? ⟨w.heap.size, 0, none⟩ = some (.int .u32 a1) ∧ W2.cell? ⟨w.heap.size + 1, 0, none⟩ = some (.int .u32 a2) ∧ W2.cell? ⟨w.heap.size + 1 + 1, 0, none⟩ = some (.func (.func 22) #[] #[]) ∧ Below w.heap.size w W2 ∧ W2.heap.size = w.heap.size + 3 := by
    subst hW2
    exact ⟨y1, y2, y3, y5.trans ⟨rfl, rfl, rfl, Nat.le_refl _, fun _ _ => rfl⟩, y6⟩
  obtain ⟨z1, z2, z3, z4, z5⟩ := z
  clear hW2 y1 y2 y3 y4 y5 y6 TH CUT
  refine (KN.out _ (hL.below z4)).mono ?_
  rintro e W4 ⟨rfl, hb⟩
  have v1 := (hb.cell (p := ⟨w.heap.size, 0, none⟩) (by simp; omega)).trans z1
  have v2 := (hb.cell (p := ⟨w.heap.size + 1, 0, none⟩) (by simp; omega)).trans z2
  have v3 := (hb.cell (p := ⟨w.heap.size + 1 + 1, 0, none⟩) (by simp; omega)).trans z3
  have hB : Below w.heap.size w W4 := z4.trans (hb.mono (by omega))
  clear z1 z2 z3 z4 hb hL KN
  go_wp2
  go_ret2
  exact ⟨rfl, hB⟩
set_option maxHeartbeats 8000000 in
set_option maxRecDepth 100000 in
theorem wide_Do.calls_mult_false (a0 : ByteArray) (a1 a2 a3 a4 : Int) (r1 r2 : Int) (w : World) (hL : Laid w) (k : ByteArray) (hcut : strings_CutSuffix.f a0 ⟨#[117]⟩ = some (k, false)) (hk : a0.toList ∈ wideNames) (y_mult : k.toList = [109, 117, 108, 116]) (h : wide_part.f (wideTimes false a1 a2) = some (r1, r2)) :
    Calls Tryd.prog 8 #[.string a0, .int .u32 a1, .int .u32 a2, .int .u32 a3, .int .u32 a4] w fun e w' => e = .returned (.tuple #[.int .u32 r1, .int .u32 r2]) ∧ Below w.heap.size w w' := by
  have KN := Lib.hid (fun w hL => wide_Known.calls a0 _ w hL rfl)
  have CUT := Lib.hid (fun w => strings_CutSuffix.calls a0 ⟨#[117]⟩ k false w hcut)
  have TM := Lib.hid (fun pr ps pt w h1 h2 h3 => wide_times.calls pr ps pt false a1 a2 w h1 h2 h3)
  have PT := Lib.hid (fun w => wide_part.calls _ r1 r2 w h)
  have dk : decide (a0.toList ∈ wideNames) = true := decide_eq_true hk
  have d_mult : (k.toList == [109, 117, 108, 116]) = true := by simpa using y_mult
  clear hk hcut
  have TH := Lib.hid (three_new w (.int .u32 a1) (.int .u32 a2) (.func (.func 22) #[] #[]) 22 22 35)
  go_enter Tryd.func8, Tryd.ntmps8
  go_wp2_with (go_at_call 23; refine (CUT.out _).mono ?_; rintro e w' ⟨rfl, ⟨nd, rfl⟩⟩)
  go_wp2_with (fail)
  obtain ⟨y1, y2, y3, y4, y5, y6⟩ := TH.out _ rfl
  obtain ⟨W2, hW2⟩ : ∃ W2, ((((w.alloc (.cells #[.int .u32 a1] 22)).alloc (.cells #[.int .u32 a2] 22)).alloc (.cells #[.func (.func 22) #[] #[]] 35))).drewN nd = W2 := ⟨_, rfl⟩
  rw [hW2]
  have z : W2.cell? ⟨w.heap.size, 0, none⟩ = some (.int .u32 a1) ∧ W2.cell? ⟨w.heap.size + 1, 0, none⟩ = some (.int .u32 a2) ∧ W2.cell? ⟨w.heap.size + 1 + 1, 0, none⟩ = some (.func (.func 22) #[] #[]) ∧ Below w.heap.size w W2 ∧ W2.heap.size = w.heap.size + 3 := by
    subst hW2
    exact ⟨y1, y2, y3, y5.trans ⟨rfl, rfl, rfl, Nat.le_refl _, fun _ _ => rfl⟩, y6⟩
  obtain ⟨z1, z2, z3, z4, z5⟩ := z
  clear hW2 y1 y2 y3 y4 y5 y6 TH CUT
  refine (KN.out _ (hL.below z4)).mono ?_
  rintro e W4 ⟨rfl, hb⟩
  have v1 := (hb.cell (p := ⟨w.heap.size, 0, none⟩) (by simp; omega)).trans z1
  have v2 := (hb.cell (p := ⟨w.heap.size + 1, 0, none⟩) (by simp; omega)).trans z2
  have v3 := (hb.cell (p := ⟨w.heap.size + 1 + 1, 0, none⟩) (by simp; omega)).trans z3
  have hB : Below w.heap.size w W4 := z4.trans (hb.mono (by omega))
  clear z1 z2 z3 z4 hb hL KN
  go_wp2_with (first
    | (go_at_call 25; refine (TM.out _ _ _ _ v3 v1 v2).mono ?_; rintro e w' ⟨rfl, ⟨nd2, rfl⟩⟩)
    | (go_at_call 26; refine (PT.out _).mono ?_; rintro e w' ⟨rfl, ⟨nd3, rfl⟩⟩))
  go_ret2
  exact ⟨rfl, hB.trans ⟨rfl, rfl, rfl, Nat.le_refl _, fun _ _ => rfl⟩⟩
set_option maxHeartbeats 8000000 in
set_option maxRecDepth 100000 in
theorem wide_Do.calls_madd_false (a0 : ByteArray) (a1 a2 a3 a4 : Int) (r1 r2 : Int) (w : World) (hL : Laid w) (k : ByteArray) (hcut : strings_CutSuffix.f a0 ⟨#[117]⟩ = some (k, false)) (hk : a0.toList ∈ wideNames) (n_mult : ¬ k.toList = [109, 117, 108, 116]) (y_madd : k.toList = [109, 97, 100, 100]) (h : wide_part.f (IntKind.u64.wrap (wideBoth a3 a4 + wideTimes false a1 a2)) = some (r1, r2)) :
    Calls Tryd.prog 8 #[.string a0, .int .u32 a1, .int .u32 a2, .int .u32 a3, .int .u32 a4] w fun e w' => e = .returned (.tuple #[.int .u32 r1, .int .u32 r2]) ∧ Below w.heap.size w w' := by
  have KN := Lib.hid (fun w hL => wide_Known.calls a0 _ w hL rfl)
  have CUT := Lib.hid (fun w => strings_CutSuffix.calls a0 ⟨#[117]⟩ k false w hcut)
  have TM := Lib.hid (fun pr ps pt w h1 h2 h3 => wide_times.calls pr ps pt false a1 a2 w h1 h2 h3)
  have PT := Lib.hid (fun w => wide_part.calls _ r1 r2 w h)
  have dk : decide (a0.toList ∈ wideNames) = true := decide_eq_true hk
  have d_mult : (k.toList == [109, 117, 108, 116]) = false := by simpa using n_mult
  have d_madd : (k.toList == [109, 97, 100, 100]) = true := by simpa using y_madd
  clear hk hcut
  have TH := Lib.hid (three_new w (.int .u32 a1) (.int .u32 a2) (.func (.func 22) #[] #[]) 22 22 35)
  go_enter Tryd.func8, Tryd.ntmps8
  go_wp2_with (go_at_call 23; refine (CUT.out _).mono ?_; rintro e w' ⟨rfl, ⟨nd, rfl⟩⟩)
  go_wp2_with (fail)
  obtain ⟨y1, y2, y3, y4, y5, y6⟩ := TH.out _ rfl
  obtain ⟨W2, hW2⟩ : ∃ W2, ((((w.alloc (.cells #[.int .u32 a1] 22)).alloc (.cells #[.int .u32 a2] 22)).alloc (.cells #[.func (.func 22) #[] #[]] 35))).drewN nd = W2 := ⟨_, rfl⟩
  rw [hW2]
  have z : W2.cell? ⟨w.heap.size, 0, none⟩ = some (.int .u32 a1) ∧ W2.cell? ⟨w.heap.size + 1, 0, none⟩ = some (.int .u32 a2) ∧ W2.cell? ⟨w.heap.size + 1 + 1, 0, none⟩ = some (.func (.func 22) #[] #[]) ∧ Below w.heap.size w W2 ∧ W2.heap.size = w.heap.size + 3 := by
    subst hW2
    exact ⟨y1, y2, y3, y5.trans ⟨rfl, rfl, rfl, Nat.le_refl _, fun _ _ => rfl⟩, y6⟩
  obtain ⟨z1, z2, z3, z4, z5⟩ := z
  clear hW2 y1 y2 y3 y4 y5 y6 TH CUT
  refine (KN.out _ (hL.below z4)).mono ?_
  rintro e W4 ⟨rfl, hb⟩
  have v1 := (hb.cell (p := ⟨w.heap.size, 0, none⟩) (by simp; omega)).trans z1
  have v2 := (hb.cell (p := ⟨w.heap.size + 1, 0, none⟩) (by simp; omega)).trans z2
  have v3 := (hb.cell (p := ⟨w.heap.size + 1 + 1, 0, none⟩) (by simp; omega)).trans z3
  have hB : Below w.heap.size w W4 := z4.trans (hb.mono (by omega))
  clear z1 z2 z3 z4 hb hL KN
  go_wp2_with (first
    | (go_at_call 25; refine (TM.out _ _ _ _ v3 v1 v2).mono ?_; rintro e w' ⟨rfl, ⟨nd2, rfl⟩⟩)
    | (go_at_call 26; refine (PT.out _).mono ?_; rintro e w' ⟨rfl, ⟨nd3, rfl⟩⟩))
  go_ret2
  exact ⟨rfl, hB.trans ⟨rfl, rfl, rfl, Nat.le_refl _, fun _ _ => rfl⟩⟩
set_option maxHeartbeats 8000000 in
set_option maxRecDepth 100000 in
theorem wide_Do.calls_msub_false (a0 : ByteArray) (a1 a2 a3 a4 : Int) (r1 r2 : Int) (w : World) (hL : Laid w) (k : ByteArray) (hcut : strings_CutSuffix.f a0 ⟨#[117]⟩ = some (k, false)) (hk : a0.toList ∈ wideNames) (n_mult : ¬ k.toList = [109, 117, 108, 116]) (n_madd : ¬ k.toList = [109, 97, 100, 100]) (y_msub : k.toList = [109, 115, 117, 98]) (h : wide_part.f (IntKind.u64.wrap (wideBoth a3 a4 - wideTimes false a1 a2)) = some (r1, r2)) :
    Calls Tryd.prog 8 #[.string a0, .int .u32 a1, .int .u32 a2, .int .u32 a3, .int .u32 a4] w fun e w' => e = .returned (.tuple #[.int .u32 r1, .int .u32 r2]) ∧ Below w.heap.size w w' := by
  have KN := Lib.hid (fun w hL => wide_Known.calls a0 _ w hL rfl)
  have CUT := Lib.hid (fun w => strings_CutSuffix.calls a0 ⟨#[117]⟩ k false w hcut)
  have TM := Lib.hid (fun pr ps pt w h1 h2 h3 => wide_times.calls pr ps pt false a1 a2 w h1 h2 h3)
  have PT := Lib.hid (fun w => wide_part.calls _ r1 r2 w h)
  have dk : decide (a0.toList ∈ wideNames) = true := decide_eq_true hk
  have d_mult : (k.toList == [109, 117, 108, 116]) = false := by simpa using n_mult
  have d_madd : (k.toList == [109, 97, 100, 100]) = false := by simpa using n_madd
  have d_msub : (k.toList == [109, 115, 117, 98]) = true := by simpa using y_msub
  clear hk hcut
  have TH := Lib.hid (three_new w (.int .u32 a1) (.int .u32 a2) (.func (.func 22) #[] #[]) 22 22 35)
  go_enter Tryd.func8, Tryd.ntmps8
  go_wp2_with (go_at_call 23; refine (CUT.out _).mono ?_; rintro e w' ⟨rfl, ⟨nd, rfl⟩⟩)
  go_wp2_with (fail)
  obtain ⟨y1, y2, y3, y4, y5, y6⟩ := TH.out _ rfl
  obtain ⟨W2, hW2⟩ : ∃ W2, ((((w.alloc (.cells #[.int .u32 a1] 22)).alloc (.cells #[.int .u32 a2] 22)).alloc (.cells #[.func (.func 22) #[] #[]] 35))).drewN nd = W2 := ⟨_, rfl⟩
  rw [hW2]
  have z : W2.cell? ⟨w.heap.size, 0, none⟩ = some (.int .u32 a1) ∧ W2.cell? ⟨w.heap.size + 1, 0, none⟩ = some (.int .u32 a2) ∧ W2.cell? ⟨w.heap.size + 1 + 1, 0, none⟩ = some (.func (.func 22) #[] #[]) ∧ Below w.heap.size w W2 ∧ W2.heap.size = w.heap.size + 3 := by
    subst hW2
    exact ⟨y1, y2, y3, y5.trans ⟨rfl, rfl, rfl, Nat.le_refl _, fun _ _ => rfl⟩, y6⟩
  obtain ⟨z1, z2, z3, z4, z5⟩ := z
  clear hW2 y1 y2 y3 y4 y5 y6 TH CUT
  refine (KN.out _ (hL.below z4)).mono ?_
  rintro e W4 ⟨rfl, hb⟩
  have v1 := (hb.cell (p := ⟨w.heap.size, 0, none⟩) (by simp; omega)).trans z1
  have v2 := (hb.cell (p := ⟨w.heap.size + 1, 0, none⟩) (by simp; omega)).trans z2
  have v3 := (hb.cell (p := ⟨w.heap.size + 1 + 1, 0, none⟩) (by simp; omega)).trans z3
  have hB : Below w.heap.size w W4 := z4.trans (hb.mono (by omega))
  clear z1 z2 z3 z4 hb hL KN
  go_wp2_with (first
    | (go_at_call 25; refine (TM.out _ _ _ _ v3 v1 v2).mono ?_; rintro e w' ⟨rfl, ⟨nd2, rfl⟩⟩)
    | (go_at_call 26; refine (PT.out _).mono ?_; rintro e w' ⟨rfl, ⟨nd3, rfl⟩⟩))
  go_ret2
  exact ⟨rfl, hB.trans ⟨rfl, rfl, rfl, Nat.le_refl _, fun _ _ => rfl⟩⟩
set_option maxHeartbeats 8000000 in
set_option maxRecDepth 100000 in
theorem wide_Do.calls_div_false (a0 : ByteArray) (a1 a2 a3 a4 : Int) (r1 r2 : Int) (w : World) (hL : Laid w) (k : ByteArray) (hcut : strings_CutSuffix.f a0 ⟨#[117]⟩ = some (k, false)) (hk : a0.toList ∈ wideNames) (n_mult : ¬ k.toList = [109, 117, 108, 116]) (n_madd : ¬ k.toList = [109, 97, 100, 100]) (n_msub : ¬ k.toList = [109, 115, 117, 98]) (y_div : k.toList = [100, 105, 118]) (h : wideQuo false a1 a2 = some (r1, r2)) :
    Calls Tryd.prog 8 #[.string a0, .int .u32 a1, .int .u32 a2, .int .u32 a3, .int .u32 a4] w fun e w' => e = .returned (.tuple #[.int .u32 r1, .int .u32 r2]) ∧ Below w.heap.size w w' := by
  have KN := Lib.hid (fun w hL => wide_Known.calls a0 _ w hL rfl)
  have CUT := Lib.hid (fun w => strings_CutSuffix.calls a0 ⟨#[117]⟩ k false w hcut)
  have QU := Lib.hid (fun w => wide_quotient.calls false a1 a2 r1 r2 w h)
  have dk : decide (a0.toList ∈ wideNames) = true := decide_eq_true hk
  have d_mult : (k.toList == [109, 117, 108, 116]) = false := by simpa using n_mult
  have d_madd : (k.toList == [109, 97, 100, 100]) = false := by simpa using n_madd
  have d_msub : (k.toList == [109, 115, 117, 98]) = false := by simpa using n_msub
  have d_div : (k.toList == [100, 105, 118]) = true := by simpa using y_div
  clear hk hcut
  have TH := Lib.hid (three_new w (.int .u32 a1) (.int .u32 a2) (.func (.func 22) #[] #[]) 22 22 35)
  go_enter Tryd.func8, Tryd.ntmps8
  go_wp2_with (go_at_call 23; refine (CUT.out _).mono ?_; rintro e w' ⟨rfl, ⟨nd, rfl⟩⟩)
  go_wp2_with (fail)
  obtain ⟨y1, y2, y3, y4, y5, y6⟩ := TH.out _ rfl
  obtain ⟨W2, hW2⟩ : ∃ W2, ((((w.alloc (.cells #[.int .u32 a1] 22)).alloc (.cells #[.int .u32 a2] 22)).alloc (.cells #[.func (.func 22) #[] #[]] 35))).drewN nd = W2 := ⟨_, rfl⟩
  rw [hW2]
  have z : W2.cell? ⟨w.heap.size, 0, none⟩ = some (.int .u32 a1) ∧ W2.cell? ⟨w.heap.size + 1, 0, none⟩ = some (.int .u32 a2) ∧ W2.cell? ⟨w.heap.size + 1 + 1, 0, none⟩ = some (.func (.func 22) #[] #[]) ∧ Below w.heap.size w W2 ∧ W2.heap.size = w.heap.size + 3 := by
    subst hW2
    exact ⟨y1, y2, y3, y5.trans ⟨rfl, rfl, rfl, Nat.le_refl _, fun _ _ => rfl⟩, y6⟩
  obtain ⟨z1, z2, z3, z4, z5⟩ := z
  clear hW2 y1 y2 y3 y4 y5 y6 TH CUT
  refine (KN.out _ (hL.below z4)).mono ?_
  rintro e W4 ⟨rfl, hb⟩
  have v1 := (hb.cell (p := ⟨w.heap.size, 0, none⟩) (by simp; omega)).trans z1
  have v2 := (hb.cell (p := ⟨w.heap.size + 1, 0, none⟩) (by simp; omega)).trans z2
  have v3 := (hb.cell (p := ⟨w.heap.size + 1 + 1, 0, none⟩) (by simp; omega)).trans z3
  have hB : Below w.heap.size w W4 := z4.trans (hb.mono (by omega))
  clear z1 z2 z3 z4 hb hL KN
  go_wp2_with (go_at_call 27; refine (QU.out _).mono ?_; rintro e w' ⟨rfl, ⟨nd2, rfl⟩⟩)
  go_ret2
  exact ⟨rfl, hB.trans ⟨rfl, rfl, rfl, Nat.le_refl _, fun _ _ => rfl⟩⟩
set_option maxHeartbeats 8000000 in
set_option maxRecDepth 100000 in
theorem wide_Do.calls_mthi_false (a0 : ByteArray) (a1 a2 a3 a4 : Int) (r1 r2 : Int) (w : World) (hL : Laid w) (k : ByteArray) (hcut : strings_CutSuffix.f a0 ⟨#[117]⟩ = some (k, false)) (hk : a0.toList ∈ wideNames) (n_mult : ¬ k.toList = [109, 117, 108, 116]) (n_madd : ¬ k.toList = [109, 97, 100, 100]) (n_msub : ¬ k.toList = [109, 115, 117, 98]) (n_div : ¬ k.toList = [100, 105, 118]) (y_mthi : a0.toList = [109, 116, 104, 105]) (h : some (a1, a4) = some (r1, r2)) :
    Calls Tryd.prog 8 #[.string a0, .int .u32 a1, .int .u32 a2, .int .u32 a3, .int .u32 a4] w fun e w' => e = .returned (.tuple #[.int .u32 r1, .int .u32 r2]) ∧ Below w.heap.size w w' := by
  have KN := Lib.hid (fun w hL => wide_Known.calls a0 _ w hL rfl)
  have CUT := Lib.hid (fun w => strings_CutSuffix.calls a0 ⟨#[117]⟩ k false w hcut)
  obtain ⟨rfl, rfl⟩ := Prod.mk.inj (Option.some.inj h)
  have dk : decide (a0.toList ∈ wideNames) = true := decide_eq_true hk
  have d_mult : (k.toList == [109, 117, 108, 116]) = false := by simpa using n_mult
  have d_madd : (k.toList == [109, 97, 100, 100]) = false := by simpa using n_madd
  have d_msub : (k.toList == [109, 115, 117, 98]) = false := by simpa using n_msub
  have d_div : (k.toList == [100, 105, 118]) = false := by simpa using n_div
  have d_mthi : (a0.toList == [109, 116, 104, 105]) = true := by simpa using y_mthi
  clear hk hcut
  have TH := Lib.hid (three_new w (.int .u32 a1) (.int .u32 a2) (.func (.func 22) #[] #[]) 22 22 35)
  go_enter Tryd.func8, Tryd.ntmps8
  go_wp2_with (go_at_call 23; refine (CUT.out _).mono ?_; rintro e w' ⟨rfl, ⟨nd, rfl⟩⟩)
  go_wp2_with (fail)
  obtain ⟨y1, y2, y3, y4, y5, y6⟩ := TH.out _ rfl
  obtain ⟨W2, hW2⟩ : ∃ W2, ((((w.alloc (.cells #[.int .u32 a1] 22)).alloc (.cells #[.int .u32 a2] 22)).alloc (.cells #[.func (.func 22) #[] #[]] 35))).drewN nd = W2 := ⟨_, rfl⟩
  rw [hW2]
  have z : W2.cell? ⟨w.heap.size, 0, none⟩ = some (.int .u32 a1) ∧ W2.cell? ⟨w.heap.size + 1, 0, none⟩ = some (.int .u32 a2) ∧ W2.cell? ⟨w.heap.size + 1 + 1, 0, none⟩ = some (.func (.func 22) #[] #[]) ∧ Below w.heap.size w W2 ∧ W2.heap.size = w.heap.size + 3 := by
    subst hW2
    exact ⟨y1, y2, y3, y5.trans ⟨rfl, rfl, rfl, Nat.le_refl _, fun _ _ => rfl⟩, y6⟩
  obtain ⟨z1, z2, z3, z4, z5⟩ := z
  clear hW2 y1 y2 y3 y4 y5 y6 TH CUT
  refine (KN.out _ (hL.below z4)).mono ?_
  rintro e W4 ⟨rfl, hb⟩
  have v1 := (hb.cell (p := ⟨w.heap.size, 0, none⟩) (by simp; omega)).trans z1
  have v2 := (hb.cell (p := ⟨w.heap.size + 1, 0, none⟩) (by simp; omega)).trans z2
  have v3 := (hb.cell (p := ⟨w.heap.size + 1 + 1, 0, none⟩) (by simp; omega)).trans z3
  have hB : Below w.heap.size w W4 := z4.trans (hb.mono (by omega))
  clear z1 z2 z3 z4 hb hL KN
  go_wp2
  go_ret2
  exact ⟨rfl, hB⟩
set_option maxHeartbeats 8000000 in
set_option maxRecDepth 100000 in
theorem wide_Do.calls_else_false (a0 : ByteArray) (a1 a2 a3 a4 : Int) (r1 r2 : Int) (w : World) (hL : Laid w) (k : ByteArray) (hcut : strings_CutSuffix.f a0 ⟨#[117]⟩ = some (k, false)) (hk : a0.toList ∈ wideNames) (n_mult : ¬ k.toList = [109, 117, 108, 116]) (n_madd : ¬ k.toList = [109, 97, 100, 100]) (n_msub : ¬ k.toList = [109, 115, 117, 98]) (n_div : ¬ k.toList = [100, 105, 118]) (n_mthi : ¬ a0.toList = [109, 116, 104, 105]) (h : some (a3, a1) = some (r1, r2)) :
    Calls Tryd.prog 8 #[.string a0, .int .u32 a1, .int .u32 a2, .int .u32 a3, .int .u32 a4] w fun e w' => e = .returned (.tuple #[.int .u32 r1, .int .u32 r2]) ∧ Below w.heap.size w w' := by
  have KN := Lib.hid (fun w hL => wide_Known.calls a0 _ w hL rfl)
  have CUT := Lib.hid (fun w => strings_CutSuffix.calls a0 ⟨#[117]⟩ k false w hcut)
  obtain ⟨rfl, rfl⟩ := Prod.mk.inj (Option.some.inj h)
  have dk : decide (a0.toList ∈ wideNames) = true := decide_eq_true hk
  have d_mult : (k.toList == [109, 117, 108, 116]) = false := by simpa using n_mult
  have d_madd : (k.toList == [109, 97, 100, 100]) = false := by simpa using n_madd
  have d_msub : (k.toList == [109, 115, 117, 98]) = false := by simpa using n_msub
  have d_div : (k.toList == [100, 105, 118]) = false := by simpa using n_div
  have d_mthi : (a0.toList == [109, 116, 104, 105]) = false := by simpa using n_mthi
  clear hk hcut
  have TH := Lib.hid (three_new w (.int .u32 a1) (.int .u32 a2) (.func (.func 22) #[] #[]) 22 22 35)
  go_enter Tryd.func8, Tryd.ntmps8
  go_wp2_with (go_at_call 23; refine (CUT.out _).mono ?_; rintro e w' ⟨rfl, ⟨nd, rfl⟩⟩)
  go_wp2_with (fail)
  obtain ⟨y1, y2, y3, y4, y5, y6⟩ := TH.out _ rfl
  obtain ⟨W2, hW2⟩ : ∃ W2, ((((w.alloc (.cells #[.int .u32 a1] 22)).alloc (.cells #[.int .u32 a2] 22)).alloc (.cells #[.func (.func 22) #[] #[]] 35))).drewN nd = W2 := ⟨_, rfl⟩
  rw [hW2]
  have z : W2.cell? ⟨w.heap.size, 0, none⟩ = some (.int .u32 a1) ∧ W2.cell? ⟨w.heap.size + 1, 0, none⟩ = some (.int .u32 a2) ∧ W2.cell? ⟨w.heap.size + 1 + 1, 0, none⟩ = some (.func (.func 22) #[] #[]) ∧ Below w.heap.size w W2 ∧ W2.heap.size = w.heap.size + 3 := by
    subst hW2
    exact ⟨y1, y2, y3, y5.trans ⟨rfl, rfl, rfl, Nat.le_refl _, fun _ _ => rfl⟩, y6⟩
  obtain ⟨z1, z2, z3, z4, z5⟩ := z
  clear hW2 y1 y2 y3 y4 y5 y6 TH CUT
  refine (KN.out _ (hL.below z4)).mono ?_
  rintro e W4 ⟨rfl, hb⟩
  have v1 := (hb.cell (p := ⟨w.heap.size, 0, none⟩) (by simp; omega)).trans z1
  have v2 := (hb.cell (p := ⟨w.heap.size + 1, 0, none⟩) (by simp; omega)).trans z2
  have v3 := (hb.cell (p := ⟨w.heap.size + 1 + 1, 0, none⟩) (by simp; omega)).trans z3
  have hB : Below w.heap.size w W4 := z4.trans (hb.mono (by omega))
  clear z1 z2 z3 z4 hb hL KN
  go_wp2
  go_quiet (fail)
  go_wp2
  go_ret2
  exact ⟨rfl, hB.trans ⟨rfl, rfl, rfl, Nat.le_refl _, fun _ _ => rfl⟩⟩
set_option maxHeartbeats 8000000 in
set_option maxRecDepth 100000 in
theorem wide_Do.calls_no_true (a0 : ByteArray) (a1 a2 a3 a4 : Int) (r1 r2 : Int) (w : World) (hL : Laid w) (k : ByteArray) (hcut : strings_CutSuffix.f a0 ⟨#[117]⟩ = some (k, true)) (hk : ¬ a0.toList ∈ wideNames) (h : some (a3, a4) = some (r1, r2)) :
    Calls Tryd.prog 8 #[.string a0, .int .u32 a1, .int .u32 a2, .int .u32 a3, .int .u32 a4] w fun e w' => e = .returned (.tuple #[.int .u32 r1, .int .u32 r2]) ∧ Below w.heap.size w w' := by
  have KN := Lib.hid (fun w hL => wide_Known.calls a0 _ w hL rfl)
  have CUT := Lib.hid (fun w => strings_CutSuffix.calls a0 ⟨#[117]⟩ k true w hcut)
  obtain ⟨rfl, rfl⟩ := Prod.mk.inj (Option.some.inj h)
  have dk : decide (a0.toList ∈ wideNames) = false := decide_eq_false hk
  clear hk hcut
  have TH := Lib.hid (three_new w (.int .u32 a1) (.int .u32 a2) (.func (.func 22) #[] #[]) 22 22 35)
  go_enter Tryd.func8, Tryd.ntmps8
  go_wp2_with (go_at_call 23; refine (CUT.out _).mono ?_; rintro e w' ⟨rfl, ⟨nd, rfl⟩⟩)
  go_wp2_with (fail)
  obtain ⟨y1, y2, y3, y4, y5, y6⟩ := TH.out _ rfl
  obtain ⟨W2, hW2⟩ : ∃ W2, (((((w.alloc (.cells #[.int .u32 a1] 22)).alloc (.cells #[.int .u32 a2] 22)).alloc (.cells #[.func (.func 22) #[] #[]] 35))).drewN nd).setCell ⟨w.heap.size + 1 + 1, 0, none⟩ (.func (.func 24) #[] #[]) = W2 := ⟨_, rfl⟩
  rw [hW2]
  have z : W2.cell? ⟨w.heap.size, 0, none⟩ = some (.int .u32 a1) ∧ W2.cell? ⟨w.heap.size + 1, 0, none⟩ = some (.int .u32 a2) ∧ W2.cell? ⟨w.heap.size + 1 + 1, 0, none⟩ = some (.func (.func 24) #[] #[]) ∧ Below w.heap.size w W2 ∧ W2.heap.size = w.heap.size + 3 := by
    subst hW2
    refine ⟨?_, ?_, World.cell?_setCell_same' _ _ _ ?_, ?_, ?_⟩
    · rw [World.cell?_setCell_other _ _ _ _ (by simp)]; exact y1
    · rw [World.cell?_setCell_other _ _ _ _ (by simp)]; exact y2
    · exact (congrArg Option.isSome y3).trans rfl
    · have q : Below w.heap.size w (((((w.alloc (.cells #[.int .u32 a1] 22)).alloc (.cells #[.int .u32 a2] 22)).alloc (.cells #[.func (.func 22) #[] #[]] 35))).drewN nd) := y5.trans ⟨rfl, rfl, rfl, Nat.le_refl _, fun _ _ => rfl⟩
      exact q.setCell (p := ⟨w.heap.size + 1 + 1, 0, none⟩) (by show w.heap.size ≤ w.heap.size + 1 + 1; omega) _
    · rw [Deep.nblk_setCell]; exact y6
  obtain ⟨z1, z2, z3, z4, z5⟩ := z
  clear hW2 y1 y2 y3 y4 y5 y6 TH CUT
  refine (KN.out _ (hL.below z4)).mono ?_
  rintro e W4 ⟨rfl, hb⟩
  have v1 := (hb.cell (p := ⟨w.heap.size, 0, none⟩) (by simp; omega)).trans z1
  have v2 := (hb.cell (p := ⟨w.heap.size + 1, 0, none⟩) (by simp; omega)).trans z2
  have v3 := (hb.cell (p := ⟨w.heap.size + 1 + 1, 0, none⟩) (by simp; omega)).trans z3
  have hB : Below w.heap.size w W4 := z4.trans (hb.mono (by omega))
  clear z1 z2 z3 z4 hb hL KN
  go_wp2
  go_ret2
  exact ⟨rfl, hB⟩
set_option maxHeartbeats 8000000 in
set_option maxRecDepth 100000 in
theorem wide_Do.calls_mult_true (a0 : ByteArray) (a1 a2 a3 a4 : Int) (r1 r2 : Int) (w : World) (hL : Laid w) (k : ByteArray) (hcut : strings_CutSuffix.f a0 ⟨#[117]⟩ = some (k, true)) (hk : a0.toList ∈ wideNames) (y_mult : k.toList = [109, 117, 108, 116]) (h : wide_part.f (wideTimes true a1 a2) = some (r1, r2)) :
    Calls Tryd.prog 8 #[.string a0, .int .u32 a1, .int .u32 a2, .int .u32 a3, .int .u32 a4] w fun e w' => e = .returned (.tuple #[.int .u32 r1, .int .u32 r2]) ∧ Below w.heap.size w w' := by
  have KN := Lib.hid (fun w hL => wide_Known.calls a0 _ w hL rfl)
  have CUT := Lib.hid (fun w => strings_CutSuffix.calls a0 ⟨#[117]⟩ k true w hcut)
  have TM := Lib.hid (fun pr ps pt w h1 h2 h3 => wide_times.calls pr ps pt true a1 a2 w h1 h2 h3)
  have PT := Lib.hid (fun w => wide_part.calls _ r1 r2 w h)
  have dk : decide (a0.toList ∈ wideNames) = true := decide_eq_true hk
  have d_mult : (k.toList == [109, 117, 108, 116]) = true := by simpa using y_mult
  clear hk hcut
  have TH := Lib.hid (three_new w (.int .u32 a1) (.int .u32 a2) (.func (.func 22) #[] #[]) 22 22 35)
  go_enter Tryd.func8, Tryd.ntmps8
  go_wp2_with (go_at_call 23; refine (CUT.out _).mono ?_; rintro e w' ⟨rfl, ⟨nd, rfl⟩⟩)
  go_wp2_with (fail)
  obtain ⟨y1, y2, y3, y4, y5, y6⟩ := TH.out _ rfl
  obtain ⟨W2, hW2⟩ : ∃ W2, (((((w.alloc (.cells #[.int .u32 a1] 22)).alloc (.cells #[.int .u32 a2] 22)).alloc (.cells #[.func (.func 22) #[] #[]] 35))).drewN nd).setCell ⟨w.heap.size + 1 + 1, 0, none⟩ (.func (.func 24) #[] #[]) = W2 := ⟨_, rfl⟩
  rw [hW2]
  have z : W2.cell? ⟨w.heap.size, 0, none⟩ = some (.int .u32 a1) ∧ W2.cell? ⟨w.heap.size + 1, 0, none⟩ = some (.int .u32 a2) ∧ W2.cell? ⟨w.heap.size + 1 + 1, 0, none⟩ = some (.func (.func 24) #[] #[]) ∧ Below w.heap.size w W2 ∧ W2.heap.size = w.heap.size + 3 := by
    subst hW2
    refine ⟨?_, ?_, World.cell?_setCell_same' _ _ _ ?_, ?_, ?_⟩
    · rw [World.cell?_setCell_other _ _ _ _ (by simp)]; exact y1
    · rw [World.cell?_setCell_other _ _ _ _ (by simp)]; exact y2
    · exact (congrArg Option.isSome y3).trans rfl
    · have q : Below w.heap.size w (((((w.alloc (.cells #[.int .u32 a1] 22)).alloc (.cells #[.int .u32 a2] 22)).alloc (.cells #[.func (.func 22) #[] #[]] 35))).drewN nd) := y5.trans ⟨rfl, rfl, rfl, Nat.le_refl _, fun _ _ => rfl⟩
      exact q.setCell (p := ⟨w.heap.size + 1 + 1, 0, none⟩) (by show w.heap.size ≤ w.heap.size + 1 + 1; omega) _
    · rw [Deep.nblk_setCell]; exact y6
  obtain ⟨z1, z2, z3, z4, z5⟩ := z
  clear hW2 y1 y2 y3 y4 y5 y6 TH CUT
  refine (KN.out _ (hL.below z4)).mono ?_
  rintro e W4 ⟨rfl, hb⟩
  have v1 := (hb.cell (p := ⟨w.heap.size, 0, none⟩) (by simp; omega)).trans z1
  have v2 := (hb.cell (p := ⟨w.heap.size + 1, 0, none⟩) (by simp; omega)).trans z2
  have v3 := (hb.cell (p := ⟨w.heap.size + 1 + 1, 0, none⟩) (by simp; omega)).trans z3
  have hB : Below w.heap.size w W4 := z4.trans (hb.mono (by omega))
  clear z1 z2 z3 z4 hb hL KN
  go_wp2_with (first
    | (go_at_call 25; refine (TM.out _ _ _ _ v3 v1 v2).mono ?_; rintro e w' ⟨rfl, ⟨nd2, rfl⟩⟩)
    | (go_at_call 26; refine (PT.out _).mono ?_; rintro e w' ⟨rfl, ⟨nd3, rfl⟩⟩))
  go_ret2
  exact ⟨rfl, hB.trans ⟨rfl, rfl, rfl, Nat.le_refl _, fun _ _ => rfl⟩⟩
set_option maxHeartbeats 8000000 in
set_option maxRecDepth 100000 in
theorem wide_Do.calls_madd_true (a0 : ByteArray) (a1 a2 a3 a4 : Int) (r1 r2 : Int) (w : World) (hL : Laid w) (k : ByteArray) (hcut : strings_CutSuffix.f a0 ⟨#[117]⟩ = some (k, true)) (hk : a0.toList ∈ wideNames) (n_mult : ¬ k.toList = [109, 117, 108, 116]) (y_madd : k.toList = [109, 97, 100, 100]) (h : wide_part.f (IntKind.u64.wrap (wideBoth a3 a4 + wideTimes true a1 a2)) = some (r1, r2)) :
    Calls Tryd.prog 8 #[.string a0, .int .u32 a1, .int .u32 a2, .int .u32 a3, .int .u32 a4] w fun e w' => e = .returned (.tuple #[.int .u32 r1, .int .u32 r2]) ∧ Below w.heap.size w w' := by
  have KN := Lib.hid (fun w hL => wide_Known.calls a0 _ w hL rfl)
  have CUT := Lib.hid (fun w => strings_CutSuffix.calls a0 ⟨#[117]⟩ k true w hcut)
  have TM := Lib.hid (fun pr ps pt w h1 h2 h3 => wide_times.calls pr ps pt true a1 a2 w h1 h2 h3)
  have PT := Lib.hid (fun w => wide_part.calls _ r1 r2 w h)
  have dk : decide (a0.toList ∈ wideNames) = true := decide_eq_true hk
  have d_mult : (k.toList == [109, 117, 108, 116]) = false := by simpa using n_mult
  have d_madd : (k.toList == [109, 97, 100, 100]) = true := by simpa using y_madd
  clear hk hcut
  have TH := Lib.hid (three_new w (.int .u32 a1) (.int .u32 a2) (.func (.func 22) #[] #[]) 22 22 35)
  go_enter Tryd.func8, Tryd.ntmps8
  go_wp2_with (go_at_call 23; refine (CUT.out _).mono ?_; rintro e w' ⟨rfl, ⟨nd, rfl⟩⟩)
  go_wp2_with (fail)
  obtain ⟨y1, y2, y3, y4, y5, y6⟩ := TH.out _ rfl
  obtain ⟨W2, hW2⟩ : ∃ W2, (((((w.alloc (.cells #[.int .u32 a1] 22)).alloc (.cells #[.int .u32 a2] 22)).alloc (.cells #[.func (.func 22) #[] #[]] 35))).drewN nd).setCell ⟨w.heap.size + 1 + 1, 0, none⟩ (.func (.func 24) #[] #[]) = W2 := ⟨_, rfl⟩
  rw [hW2]
  have z : W2.cell? ⟨w.heap.size, 0, none⟩ = some (.int .u32 a1) ∧ W2.cell? ⟨w.heap.size + 1, 0, none⟩ = some (.int .u32 a2) ∧ W2.cell? ⟨w.heap.size + 1 + 1, 0, none⟩ = some (.func (.func 24) #[] #[]) ∧ Below w.heap.size w W2 ∧ W2.heap.size = w.heap.size + 3 := by
    subst hW2
    refine ⟨?_, ?_, World.cell?_setCell_same' _ _ _ ?_, ?_, ?_⟩
    · rw [World.cell?_setCell_other _ _ _ _ (by simp)]; exact y1
    · rw [World.cell?_setCell_other _ _ _ _ (by simp)]; exact y2
    · exact (congrArg Option.isSome y3).trans rfl
    · have q : Below w.heap.size w (((((w.alloc (.cells #[.int .u32 a1] 22)).alloc (.cells #[.int .u32 a2] 22)).alloc (.cells #[.func (.func 22) #[] #[]] 35))).drewN nd) := y5.trans ⟨rfl, rfl, rfl, Nat.le_refl _, fun _ _ => rfl⟩
      exact q.setCell (p := ⟨w.heap.size + 1 + 1, 0, none⟩) (by show w.heap.size ≤ w.heap.size + 1 + 1; omega) _
    · rw [Deep.nblk_setCell]; exact y6
  obtain ⟨z1, z2, z3, z4, z5⟩ := z
  clear hW2 y1 y2 y3 y4 y5 y6 TH CUT
  refine (KN.out _ (hL.below z4)).mono ?_
  rintro e W4 ⟨rfl, hb⟩
  have v1 := (hb.cell (p := ⟨w.heap.size, 0, none⟩) (by simp; omega)).trans z1
  have v2 := (hb.cell (p := ⟨w.heap.size + 1, 0, none⟩) (by simp; omega)).trans z2
  have v3 := (hb.cell (p := ⟨w.heap.size + 1 + 1, 0, none⟩) (by simp; omega)).trans z3
  have hB : Below w.heap.size w W4 := z4.trans (hb.mono (by omega))
  clear z1 z2 z3 z4 hb hL KN
  go_wp2_with (first
    | (go_at_call 25; refine (TM.out _ _ _ _ v3 v1 v2).mono ?_; rintro e w' ⟨rfl, ⟨nd2, rfl⟩⟩)
    | (go_at_call 26; refine (PT.out _).mono ?_; rintro e w' ⟨rfl, ⟨nd3, rfl⟩⟩))
  go_ret2
  exact ⟨rfl, hB.trans ⟨rfl, rfl, rfl, Nat.le_refl _, fun _ _ => rfl⟩⟩
set_option maxHeartbeats 8000000 in
set_option maxRecDepth 100000 in
theorem wide_Do.calls_msub_true (a0 : ByteArray) (a1 a2 a3 a4 : Int) (r1 r2 : Int) (w : World) (hL : Laid w) (k : ByteArray) (hcut : strings_CutSuffix.f a0 ⟨#[117]⟩ = some (k, true)) (hk : a0.toList ∈ wideNames) (n_mult : ¬ k.toList = [109, 117, 108, 116]) (n_madd : ¬ k.toList = [109, 97, 100, 100]) (y_msub : k.toList = [109, 115, 117, 98]) (h : wide_part.f (IntKind.u64.wrap (wideBoth a3 a4 - wideTimes true a1 a2)) = some (r1, r2)) :
    Calls Tryd.prog 8 #[.string a0, .int .u32 a1, .int .u32 a2, .int .u32 a3, .int .u32 a4] w fun e w' => e = .returned (.tuple #[.int .u32 r1, .int .u32 r2]) ∧ Below w.heap.size w w' := by
  have KN := Lib.hid (fun w hL => wide_Known.calls a0 _ w hL rfl)
  have CUT := Lib.hid (fun w => strings_CutSuffix.calls a0 ⟨#[117]⟩ k true w hcut)
  have TM := Lib.hid (fun pr ps pt w h1 h2 h3 => wide_times.calls pr ps pt true a1 a2 w h1 h2 h3)
  have PT := Lib.hid (fun w => wide_part.calls _ r1 r2 w h)
  have dk : decide (a0.toList ∈ wideNames) = true := decide_eq_true hk
  have d_mult : (k.toList == [109, 117, 108, 116]) = false := by simpa using n_mult
  have d_madd : (k.toList == [109, 97, 100, 100]) = false := by simpa using n_madd
  have d_msub : (k.toList == [109, 115, 117, 98]) = true := by simpa using y_msub
  clear hk hcut
  have TH := Lib.hid (three_new w (.int .u32 a1) (.int .u32 a2) (.func (.func 22) #[] #[]) 22 22 35)
  go_enter Tryd.func8, Tryd.ntmps8
  go_wp2_with (go_at_call 23; refine (CUT.out _).mono ?_; rintro e w' ⟨rfl, ⟨nd, rfl⟩⟩)
  go_wp2_with (fail)
  obtain ⟨y1, y2, y3, y4, y5, y6⟩ := TH.out _ rfl
  obtain ⟨W2, hW2⟩ : ∃ W2, (((((w.alloc (.cells #[.int .u32 a1] 22)).alloc (.cells #[.int .u32 a2] 22)).alloc (.cells #[.func (.func 22) #[] #[]] 35))).drewN nd).setCell ⟨w.heap.size + 1 + 1, 0, none⟩ (.func (.func 24) #[] #[]) = W2 := ⟨_, rfl⟩
  rw [hW2]
  have z : W2.cell? ⟨w.heap.size, 0, none⟩ = some (.int .u32 a1) ∧ W2.cell? ⟨w.heap.size + 1, 0, none⟩ = some (.int .u32 a2) ∧ W2.cell? ⟨w.heap.size + 1 + 1, 0, none⟩ = some (.func (.func 24) #[] #[]) ∧ Below w.heap.size w W2 ∧ W2.heap.size = w.heap.size + 3 := by
    subst hW2
    refine ⟨?_, ?_, World.cell?_setCell_same' _ _ _ ?_, ?_, ?_⟩
    · rw [World.cell?_setCell_other _ _ _ _ (by simp)]; exact y1
    · rw [World.cell?_setCell_other _ _ _ _ (by simp)]; exact y2
    · exact (congrArg Option.isSome y3).trans rfl
    · have q : Below w.heap.size w (((((w.alloc (.cells #[.int .u32 a1] 22)).alloc (.cells #[.int .u32 a2] 22)).alloc (.cells #[.func (.func 22) #[] #[]] 35))).drewN nd) := y5.trans ⟨rfl, rfl, rfl, Nat.le_refl _, fun _ _ => rfl⟩
      exact q.setCell (p := ⟨w.heap.size + 1 + 1, 0, none⟩) (by show w.heap.size ≤ w.heap.size + 1 + 1; omega) _
    · rw [Deep.nblk_setCell]; exact y6
  obtain ⟨z1, z2, z3, z4, z5⟩ := z
  clear hW2 y1 y2 y3 y4 y5 y6 TH CUT
  refine (KN.out _ (hL.below z4)).mono ?_
  rintro e W4 ⟨rfl, hb⟩
  have v1 := (hb.cell (p := ⟨w.heap.size, 0, none⟩) (by simp; omega)).trans z1
  have v2 := (hb.cell (p := ⟨w.heap.size + 1, 0, none⟩) (by simp; omega)).trans z2
  have v3 := (hb.cell (p := ⟨w.heap.size + 1 + 1, 0, none⟩) (by simp; omega)).trans z3
  have hB : Below w.heap.size w W4 := z4.trans (hb.mono (by omega))
  clear z1 z2 z3 z4 hb hL KN
  go_wp2_with (first
    | (go_at_call 25; refine (TM.out _ _ _ _ v3 v1 v2).mono ?_; rintro e w' ⟨rfl, ⟨nd2, rfl⟩⟩)
    | (go_at_call 26; refine (PT.out _).mono ?_; rintro e w' ⟨rfl, ⟨nd3, rfl⟩⟩))
  go_ret2
  exact ⟨rfl, hB.trans ⟨rfl, rfl, rfl, Nat.le_refl _, fun _ _ => rfl⟩⟩
set_option maxHeartbeats 8000000 in
set_option maxRecDepth 100000 in
theorem wide_Do.calls_div_true (a0 : ByteArray) (a1 a2 a3 a4 : Int) (r1 r2 : Int) (w : World) (hL : Laid w) (k : ByteArray) (hcut : strings_CutSuffix.f a0 ⟨#[117]⟩ = some (k, true)) (hk : a0.toList ∈ wideNames) (n_mult : ¬ k.toList = [109, 117, 108, 116]) (n_madd : ¬ k.toList = [109, 97, 100, 100]) (n_msub : ¬ k.toList = [109, 115, 117, 98]) (y_div : k.toList = [100, 105, 118]) (h : wideQuo true a1 a2 = some (r1, r2)) :
    Calls Tryd.prog 8 #[.string a0, .int .u32 a1, .int .u32 a2, .int .u32 a3, .int .u32 a4] w fun e w' => e = .returned (.tuple #[.int .u32 r1, .int .u32 r2]) ∧ Below w.heap.size w w' := by
  have KN := Lib.hid (fun w hL => wide_Known.calls a0 _ w hL rfl)
  have CUT := Lib.hid (fun w => strings_CutSuffix.calls a0 ⟨#[117]⟩ k true w hcut)
  have QU := Lib.hid (fun w => wide_quotient.calls true a1 a2 r1 r2 w h)
  have dk : decide (a0.toList ∈ wideNames) = true := decide_eq_true hk
  have d_mult : (k.toList == [109, 117, 108, 116]) = false := by simpa using n_mult
  have d_madd : (k.toList == [109, 97, 100, 100]) = false := by simpa using n_madd
  have d_msub : (k.toList == [109, 115, 117, 98]) = false := by simpa using n_msub
  have d_div : (k.toList == [100, 105, 118]) = true := by simpa using y_div
  clear hk hcut
  have TH := Lib.hid (three_new w (.int .u32 a1) (.int .u32 a2) (.func (.func 22) #[] #[]) 22 22 35)
  go_enter Tryd.func8, Tryd.ntmps8
  go_wp2_with (go_at_call 23; refine (CUT.out _).mono ?_; rintro e w' ⟨rfl, ⟨nd, rfl⟩⟩)
  go_wp2_with (fail)
  obtain ⟨y1, y2, y3, y4, y5, y6⟩ := TH.out _ rfl
  obtain ⟨W2, hW2⟩ : ∃ W2, (((((w.alloc (.cells #[.int .u32 a1] 22)).alloc (.cells #[.int .u32 a2] 22)).alloc (.cells #[.func (.func 22) #[] #[]] 35))).drewN nd).setCell ⟨w.heap.size + 1 + 1, 0, none⟩ (.func (.func 24) #[] #[]) = W2 := ⟨_, rfl⟩
  rw [hW2]
  have z : W2.cell? ⟨w.heap.size, 0, none⟩ = some (.int .u32 a1) ∧ W2.cell? ⟨w.heap.size + 1, 0, none⟩ = some (.int .u32 a2) ∧ W2.cell? ⟨w.heap.size + 1 + 1, 0, none⟩ = some (.func (.func 24) #[] #[]) ∧ Below w.heap.size w W2 ∧ W2.heap.size = w.heap.size + 3 := by
    subst hW2
    refine ⟨?_, ?_, World.cell?_setCell_same' _ _ _ ?_, ?_, ?_⟩
    · rw [World.cell?_setCell_other _ _ _ _ (by simp)]; exact y1
    · rw [World.cell?_setCell_other _ _ _ _ (by simp)]; exact y2
    · exact (congrArg Option.isSome y3).trans rfl
    · have q : Below w.heap.size w (((((w.alloc (.cells #[.int .u32 a1] 22)).alloc (.cells #[.int .u32 a2] 22)).alloc (.cells #[.func (.func 22) #[] #[]] 35))).drewN nd) := y5.trans ⟨rfl, rfl, rfl, Nat.le_refl _, fun _ _ => rfl⟩
      exact q.setCell (p := ⟨w.heap.size + 1 + 1, 0, none⟩) (by show w.heap.size ≤ w.heap.size + 1 + 1; omega) _
    · rw [Deep.nblk_setCell]; exact y6
  obtain ⟨z1, z2, z3, z4, z5⟩ := z
  clear hW2 y1 y2 y3 y4 y5 y6 TH CUT
  refine (KN.out _ (hL.below z4)).mono ?_
  rintro e W4 ⟨rfl, hb⟩
  have v1 := (hb.cell (p := ⟨w.heap.size, 0, none⟩) (by simp; omega)).trans z1
  have v2 := (hb.cell (p := ⟨w.heap.size + 1, 0, none⟩) (by simp; omega)).trans z2
  have v3 := (hb.cell (p := ⟨w.heap.size + 1 + 1, 0, none⟩) (by simp; omega)).trans z3
  have hB : Below w.heap.size w W4 := z4.trans (hb.mono (by omega))
  clear z1 z2 z3 z4 hb hL KN
  go_wp2_with (go_at_call 27; refine (QU.out _).mono ?_; rintro e w' ⟨rfl, ⟨nd2, rfl⟩⟩)
  go_ret2
  exact ⟨rfl, hB.trans ⟨rfl, rfl, rfl, Nat.le_refl _, fun _ _ => rfl⟩⟩
set_option maxHeartbeats 8000000 in
set_option maxRecDepth 100000 in
theorem wide_Do.calls_mthi_true (a0 : ByteArray) (a1 a2 a3 a4 : Int) (r1 r2 : Int) (w : World) (hL : Laid w) (k : ByteArray) (hcut : strings_CutSuffix.f a0 ⟨#[117]⟩ = some (k, true)) (hk : a0.toList ∈ wideNames) (n_mult : ¬ k.toList = [109, 117, 108, 116]) (n_madd : ¬ k.toList = [109, 97, 100, 100]) (n_msub : ¬ k.toList = [109, 115, 117, 98]) (n_div : ¬ k.toList = [100, 105, 118]) (y_mthi : a0.toList = [109, 116, 104, 105]) (h : some (a1, a4) = some (r1, r2)) :
    Calls Tryd.prog 8 #[.string a0, .int .u32 a1, .int .u32 a2, .int .u32 a3, .int .u32 a4] w fun e w' => e = .returned (.tuple #[.int .u32 r1, .int .u32 r2]) ∧ Below w.heap.size w w' := by
  have KN := Lib.hid (fun w hL => wide_Known.calls a0 _ w hL rfl)
  have CUT := Lib.hid (fun w => strings_CutSuffix.calls a0 ⟨#[117]⟩ k true w hcut)
  obtain ⟨rfl, rfl⟩ := Prod.mk.inj (Option.some.inj h)
  have dk : decide (a0.toList ∈ wideNames) = true := decide_eq_true hk
  have d_mult : (k.toList == [109, 117, 108, 116]) = false := by simpa using n_mult
  have d_madd : (k.toList == [109, 97, 100, 100]) = false := by simpa using n_madd
  have d_msub : (k.toList == [109, 115, 117, 98]) = false := by simpa using n_msub
  have d_div : (k.toList == [100, 105, 118]) = false := by simpa using n_div
  have d_mthi : (a0.toList == [109, 116, 104, 105]) = true := by simpa using y_mthi
  clear hk hcut
  have TH := Lib.hid (three_new w (.int .u32 a1) (.int .u32 a2) (.func (.func 22) #[] #[]) 22 22 35)
  go_enter Tryd.func8, Tryd.ntmps8
  go_wp2_with (go_at_call 23; refine (CUT.out _).mono ?_; rintro e w' ⟨rfl, ⟨nd, rfl⟩⟩)
  go_wp2_with (fail)
  obtain ⟨y1, y2, y3, y4, y5, y6⟩ := TH.out _ rfl
  obtain ⟨W2, hW2⟩ : ∃ W2, (((((w.alloc (.cells #[.int .u32 a1] 22)).alloc (.cells #[.int .u32 a2] 22)).alloc (.cells #[.func (.func 22) #[] #[]] 35))).drewN nd).setCell ⟨w.heap.size + 1 + 1, 0, none⟩ (.func (.func 24) #[] #[]) = W2 := ⟨_, rfl⟩
  rw [hW2]
  have z : W2.cell? ⟨w.heap.size, 0, none⟩ = some (.int .u32 a1) ∧ W2.cell? ⟨w.heap.size + 1, 0, none⟩ = some (.int .u32 a2) ∧ W2.cell? ⟨w.heap.size + 1 + 1, 0, none⟩ = some (.func (.func 24) #[] #[]) ∧ Below w.heap.size w W2 ∧ W2.heap.size = w.heap.size + 3 := by
    subst hW2
    refine ⟨?_, ?_, World.cell?_setCell_same' _ _ _ ?_, ?_, ?_⟩
    · rw [World.cell?_setCell_other _ _ _ _ (by simp)]; exact y1
    · rw [World.cell?_setCell_other _ _ _ _ (by simp)]; exact y2
    · exact (congrArg Option.isSome y3).trans rfl
    · have q : Below w.heap.size w (((((w.alloc (.cells #[.int .u32 a1] 22)).alloc (.cells #[.int .u32 a2] 22)).alloc (.cells #[.func (.func 22) #[] #[]] 35))).drewN nd) := y5.trans ⟨rfl, rfl, rfl, Nat.le_refl _, fun _ _ => rfl⟩
      exact q.setCell (p := ⟨w.heap.size + 1 + 1, 0, none⟩) (by show w.heap.size ≤ w.heap.size + 1 + 1; omega) _
    · rw [Deep.nblk_setCell]; exact y6
  obtain ⟨z1, z2, z3, z4, z5⟩ := z
  clear hW2 y1 y2 y3 y4 y5 y6 TH CUT
  refine (KN.out _ (hL.below z4)).mono ?_
  rintro e W4 ⟨rfl, hb⟩
  have v1 := (hb.cell (p := ⟨w.heap.size, 0, none⟩) (by simp; omega)).trans z1
  have v2 := (hb.cell (p := ⟨w.heap.size + 1, 0, none⟩) (by simp; omega)).trans z2
  have v3 := (hb.cell (p := ⟨w.heap.size + 1 + 1, 0, none⟩) (by simp; omega)).trans z3
  have hB : Below w.heap.size w W4 := z4.trans (hb.mono (by omega))
  clear z1 z2 z3 z4 hb hL KN
  go_wp2
  go_ret2
  exact ⟨rfl, hB⟩
set_option maxHeartbeats 8000000 in
set_option maxRecDepth 100000 in
theorem wide_Do.calls_else_true (a0 : ByteArray) (a1 a2 a3 a4 : Int) (r1 r2 : Int) (w : World) (hL : Laid w) (k : ByteArray) (hcut : strings_CutSuffix.f a0 ⟨#[117]⟩ = some (k, true)) (hk : a0.toList ∈ wideNames) (n_mult : ¬ k.toList = [109, 117, 108, 116]) (n_madd : ¬ k.toList = [109, 97, 100, 100]) (n_msub : ¬ k.toList = [109, 115, 117, 98]) (n_div : ¬ k.toList = [100, 105, 118]) (n_mthi : ¬ a0.toList = [109, 116, 104, 105]) (h : some (a3, a1) = some (r1, r2)) :
    Calls Tryd.prog 8 #[.string a0, .int .u32 a1, .int .u32 a2, .int .u32 a3, .int .u32 a4] w fun e w' => e = .returned (.tuple #[.int .u32 r1, .int .u32 r2]) ∧ Below w.heap.size w w' := by
  have KN := Lib.hid (fun w hL => wide_Known.calls a0 _ w hL rfl)
  have CUT := Lib.hid (fun w => strings_CutSuffix.calls a0 ⟨#[117]⟩ k true w hcut)
  obtain ⟨rfl, rfl⟩ := Prod.mk.inj (Option.some.inj h)
  have dk : decide (a0.toList ∈ wideNames) = true := decide_eq_true hk
  have d_mult : (k.toList == [109, 117, 108, 116]) = false := by simpa using n_mult
  have d_madd : (k.toList == [109, 97, 100, 100]) = false := by simpa using n_madd
  have d_msub : (k.toList == [109, 115, 117, 98]) = false := by simpa using n_msub
  have d_div : (k.toList == [100, 105, 118]) = false := by simpa using n_div
  have d_mthi : (a0.toList == [109, 116, 104, 105]) = false := by simpa using n_mthi
  clear hk hcut
  have TH := Lib.hid (three_new w (.int .u32 a1) (.int .u32 a2) (.func (.func 22) #[] #[]) 22 22 35)
  go_enter Tryd.func8, Tryd.ntmps8
  go_wp2_with (go_at_call 23; refine (CUT.out _).mono ?_; rintro e w' ⟨rfl, ⟨nd, rfl⟩⟩)
  go_wp2_with (fail)
  obtain ⟨y1, y2, y3, y4, y5, y6⟩ := TH.out _ rfl
  obtain ⟨W2, hW2⟩ : ∃ W2, (((((w.alloc (.cells #[.int .u32 a1] 22)).alloc (.cells #[.int .u32 a2] 22)).alloc (.cells #[.func (.func 22) #[] #[]] 35))).drewN nd).setCell ⟨w.heap.size + 1 + 1, 0, none⟩ (.func (.func 24) #[] #[]) = W2 := ⟨_, rfl⟩
  rw [hW2]
  have z : W2.cell? ⟨w.heap.size, 0, none⟩ = some (.int .u32 a1) ∧ W2.cell? ⟨w.heap.size + 1, 0, none⟩ = some (.int .u32 a2) ∧ W2.cell? ⟨w.heap.size + 1 + 1, 0, none⟩ = some (.func (.func 24) #[] #[]) ∧ Below w.heap.size w W2 ∧ W2.heap.size = w.heap.size + 3 := by
    subst hW2
    refine ⟨?_, ?_, World.cell?_setCell_same' _ _ _ ?_, ?_, ?_⟩
    · rw [World.cell?_setCell_other _ _ _ _ (by simp)]; exact y1
    · rw [World.cell?_setCell_other _ _ _ _ (by simp)]; exact y2
    · exact (congrArg Option.isSome y3).trans rfl
    · have q : Below w.heap.size w (((((w.alloc (.cells #[.int .u32 a1] 22)).alloc (.cells #[.int .u32 a2] 22)).alloc (.cells #[.func (.func 22) #[] #[]] 35))).drewN nd) := y5.trans ⟨rfl, rfl, rfl, Nat.le_refl _, fun _ _ => rfl⟩
      exact q.setCell (p := ⟨w.heap.size + 1 + 1, 0, none⟩) (by show w.heap.size ≤ w.heap.size + 1 + 1; omega) _
    · rw [Deep.nblk_setCell]; exact y6
  obtain ⟨z1, z2, z3, z4, z5⟩ := z
  clear hW2 y1 y2 y3 y4 y5 y6 TH CUT
  refine (KN.out _ (hL.below z4)).mono ?_
  rintro e W4 ⟨rfl, hb⟩
  have v1 := (hb.cell (p := ⟨w.heap.size, 0, none⟩) (by simp; omega)).trans z1
  have v2 := (hb.cell (p := ⟨w.heap.size + 1, 0, none⟩) (by simp; omega)).trans z2
  have v3 := (hb.cell (p := ⟨w.heap.size + 1 + 1, 0, none⟩) (by simp; omega)).trans z3
  have hB : Below w.heap.size w W4 := z4.trans (hb.mono (by omega))
  clear z1 z2 z3 z4 hb hL KN
  go_wp2
  go_quiet (fail)
  go_wp2
  go_ret2
  exact ⟨rfl, hB.trans ⟨rfl, rfl, rfl, Nat.le_refl _, fun _ _ => rfl⟩⟩
set_option maxHeartbeats 8000000 in
set_option maxRecDepth 100000 in
theorem wide_Do.calls (a0 : ByteArray) (a1 a2 a3 a4 : Int) (r1 r2 : Int) (w : World) (hL : Laid w) (h : wide_Do.f a0 a1 a2 a3 a4 = some (r1, r2)) :
    Calls Tryd.prog 8 #[.string a0, .int .u32 a1, .int .u32 a2, .int .u32 a3, .int .u32 a4] w fun e w' => e = .returned (.tuple #[.int .u32 r1, .int .u32 r2]) ∧ Below w.heap.size w w' := by
  obtain ⟨⟨k, u⟩, hcut, h⟩ := Option.bind_eq_some_iff.1 h
  dsimp only at h
  by_cases hk : a0.toList ∈ wideNames
  · rw [if_pos hk] at h
    by_cases n_mult : k.toList = [109, 117, 108, 116]
    · rw [if_pos n_mult] at h
      cases u
      · exact wide_Do.calls_mult_false a0 a1 a2 a3 a4 r1 r2 w hL k hcut hk n_mult h
      · exact wide_Do.calls_mult_true a0 a1 a2 a3 a4 r1 r2 w hL k hcut hk n_mult h
    rw [if_neg n_mult] at h
    by_cases n_madd : k.toList = [109, 97, 100, 100]
    · rw [if_pos n_madd] at h
      cases u
      · exact wide_Do.calls_madd_false a0 a1 a2 a3 a4 r1 r2 w hL k hcut hk n_mult n_madd h
      · exact wide_Do.calls_madd_true a0 a1 a2 a3 a4 r1 r2 w hL k hcut hk n_mult n_madd h
    rw [if_neg n_madd] at h
    by_cases n_msub : k.toList = [109, 115, 117, 98]
    · rw [if_pos n_msub] at h
      cases u
      · exact wide_Do.calls_msub_false a0 a1 a2 a3 a4 r1 r2 w hL k hcut hk n_mult n_madd n_msub h
      · exact wide_Do.calls_msub_true a0 a1 a2 a3 a4 r1 r2 w hL k hcut hk n_mult n_madd n_msub h
    rw [if_neg n_msub] at h
    by_cases n_div : k.toList = [100, 105, 118]
    · rw [if_pos n_div] at h
      cases u
      · exact wide_Do.calls_div_false a0 a1 a2 a3 a4 r1 r2 w hL k hcut hk n_mult n_madd n_msub n_div h
      · exact wide_Do.calls_div_true a0 a1 a2 a3 a4 r1 r2 w hL k hcut hk n_mult n_madd n_msub n_div h
    rw [if_neg n_div] at h
    by_cases n_mthi : a0.toList = [109, 116, 104, 105]
    · rw [if_pos n_mthi] at h
      cases u
      · exact wide_Do.calls_mthi_false a0 a1 a2 a3 a4 r1 r2 w hL k hcut hk n_mult n_madd n_msub n_div n_mthi h
      · exact wide_Do.calls_mthi_true a0 a1 a2 a3 a4 r1 r2 w hL k hcut hk n_mult n_madd n_msub n_div n_mthi h
    rw [if_neg n_mthi] at h
    cases u
    · exact wide_Do.calls_else_false a0 a1 a2 a3 a4 r1 r2 w hL k hcut hk n_mult n_madd n_msub n_div n_mthi h
    · exact wide_Do.calls_else_true a0 a1 a2 a3 a4 r1 r2 w hL k hcut hk n_mult n_madd n_msub n_div n_mthi h
  · rw [if_neg hk] at h
    cases u
    · exact wide_Do.calls_no_false a0 a1 a2 a3 a4 r1 r2 w hL k hcut hk h
    · exact wide_Do.calls_no_true a0 a1 a2 a3 a4 r1 r2 w hL k hcut hk h
end Go.Proofs.YtommcnppgodhgaaDoor.F
