import Derived.Below
import Derived.Deep.Draws
import Derived.Deep.AppendLies
import Derived.Maps.AppendAt
import Derived.OwnWalk
import Derived.Laws.BytesArg
import Derived.Laws.MakeOwn
import Derived.Laws.OwnMore
import Derived.Deep.OwnRows
import Derived.Tactics
import Derived.Lib.ConvBytes
import Derived.Laws.Slices
import Derived.WalkKit
import Derived.KernelRfl
import Derived.RowKit3
import Derived.Deep.LoopGhost
import Derived.Deep.QuietTactic
import Derived.BigQuiet
import Derived.WideLaws
import Derived.Deep.DeepCutAuto
import Derived.Deep.CutBlock
import Derived.Deep.RegionHeld3
import Derived.Laws.Rows
import Derived.Lib.AppendStr
import Derived.ArgAppend
import Derived.Laws.IdiomCopy
import Derived.RowKit
import Derived.OrdersHeld
import Derived.Laws.BitsLemmas
import Derived.Laws.StructEq
import Derived.OwnWalkIn
import Derived.ProofKit
import Derived.Lib.Hide
import Derived.Shelf.RegionOpen
import Derived.Shelf.Abstract
import Derived.Lib.SliceRun
import Derived.WalkSmall
import Derived.Laws.ResultCell
import Derived.Shelf.Spec.SlicesInsertGrow
import Derived.OpenShut
import Derived.Deep.Slices
import Derived.SizedLaws
import Derived.Test.YtlmmipdgedfboaaZF0
import Derived.Test.YtlmmipdgedfboaaYA1Slc
import Derived.Test.YtlmmipdgedfboaaYA2LawK
import Derived.Test.YtlmmipdgedfboaaYA7HHost3
import Derived.Test.YtlmmipdgedfboaaYA10HHost11
import Derived.Test.YtlmmipdgedfboaaYA16
import Derived.Test.YtlmmipdgedfboaaYA17HHost6
import Derived.Test.YtlmmipdgedfboaaYA18
import Derived.Test.YtlmmipdgedfboaaYA20
import Derived.Test.YtlmmipdgedfboaaYA22
import Derived.Test.YtlmmipdgedfboaaYB35PHost3
import Derived.Test.YtlmmipdgedfboaaYB37PHost5
import Derived.Test.YtlmmipdgedfboaaYB38HHostL
section
namespace Go.Proofs.Ytlmmipdgedfboaa.F
open Go.RowKit Go.Shelf Go.Proofs.YtlmmipdgedfboaaW.PrintWords Go.Proofs.YtlmmipdgedfboaaW.PrintLast Go.Proofs.YtlmmipdgedfboaaW.PrintMore
set_option linter.unusedVariables false
set_option linter.unusedSimpArgs false
def ferrylaw03_HostPages.T1 : Bool × List (List Nat × List Nat) := (true, [([], []), ([0], [0]), ([1], [1]), ([2, 1], [2]), ([3], [3]), ([4, 3, 3], [3, 4]), ([5, 3], [3, 5]), ([3, 6], [3, 6]), ([7, 5], [7]), ([8], [8]), ([9, 8, 8], [8, 9]), ([8], [8]), ([11, 10, 8], [8, 11]), ([10, 12, 8], [8, 10, 12]), ([8, 13], [8, 13]), ([14, 12], [14]), ([15], [15]), ([15], [15]), ([16, 17, 15, 15], [15, 16, 17]), ([15], [15]), ([15], [15]), ([19, 20, 18, 15], [15, 19, 20]), ([18, 21, 15], [15, 18, 21]), ([15, 22], [15, 22]), ([23, 21], [23]), ([24], [24]), ([24], [24]), ([25, 26, 24, 24], [24, 25, 26]), ([27, 24], [24, 27]), ([24, 28], [24, 28])])
def ferrylaw03_HostPages.B1 : List Nat := [0, 1, 3, 7, 15, 31, 63, 127, 255, 511, 1023, 511, 4095, 8191, 16383, 32767, 65535, 65535, 262143, 65535, 65535, 2097151, 4194303, 8388607, 16777215, 33554431, 33554431, 134217727, 268435455, 536870911]
theorem ferrylaw03_HostPages.tab1 : rtab .any (opsOf Try.f7 1) = ferrylaw03_HostPages.T1 := by kernel_rfl
theorem ferrylaw03_HostPages.bits1 : waitsOk ferrylaw03_HostPages.T1.2 ferrylaw03_HostPages.B1 = true := by kernel_rfl
-- masks: XHHost11
--def ms_ (n k : Nat) : Array Bool := (List.replicate k true ++ List.replicate (n - k) false).toArray
-- HAND fn=ferry/ferrylaw03.HostPages ; rounds=0 ; making=1 ; laid=0
def ferrylaw03_HostPages.f (l0_0 : List S53) (l0_1 : List S55) (l1_0 : List S53) (l1_1 : List S55) (a2 a3 a4 : Int) : Option Bool := if okH l0_0 l0_1 = true ∧ okH l1_0 l1_1 = true ∧ (0 ≤ a2 ∧ a2 ≤ 18446744073709551615) ∧ (0 ≤ a3 ∧ a3 ≤ 18446744073709551615) ∧ (-9223372036854775808 ≤ a4 ∧ a4 ≤ 9223372036854775807) then some true else none
set_option maxHeartbeats 8000000 in
set_option maxRecDepth 100000 in
theorem ferrylaw03_HostPages.calls (A0_0 : Option Addr) (c0_0 : Nat) (l0_0 : List S53) (A0_1 : Option Addr) (c0_1 : Nat) (l0_1 : List S55) (A1_0 : Option Addr) (c1_0 : Nat) (l1_0 : List S53) (A1_1 : Option Addr) (c1_1 : Nat) (l1_1 : List S55) (a2 a3 a4 : Int) (r : Bool) (w : World) (hr0_0 : Kd.C k53 w A0_0 l0_0.length l0_0) (hc0_0 : l0_0.length ≤ c0_0) (hr0_1 : Kd.C k55 w A0_1 l0_1.length l0_1) (hc0_1 : l0_1.length ≤ c0_1) (hr1_0 : Kd.C k53 w A1_0 l1_0.length l1_0) (hc1_0 : l1_0.length ≤ c1_0) (hr1_1 : Kd.C k55 w A1_1 l1_1.length l1_1) (hc1_1 : l1_1.length ≤ c1_1) (h : ferrylaw03_HostPages.f l0_0 l0_1 l1_0 l1_1 a2 a3 a4 = some r) :
    Calls Try.prog 7 #[.agg #[.slice A0_0 l0_0.length c0_0, .slice A0_1 l0_1.length c0_1], .agg #[.slice A1_0 l1_0.length c1_0, .slice A1_1 l1_1.length c1_1], .int .u64 a2, .int .u64 a3, .int .i64 a4] w fun e w' => e = .returned (.bool r) ∧ Below w.heap.size w w' := by
  unfold ferrylaw03_HostPages.f at h
  split at h
  rotate_left
  · cases h
  rename_i hcond
  obtain rfl : true = r := Option.some.inj h
  clear h
  obtain ⟨ho, ho', ha2, ha3, ha4⟩ := hcond
  have WF := Lib.hid (okH_wf ho)
  have WG := Lib.hid (okH_wf ho')
  clear ho ho'
  have X2 := Lib.hid ha2
  have X3 := Lib.hid ha3
  have X4 := Lib.hid ha4
  clear ha2 ha3 ha4
  have VH := Lib.hid (show HostV w _ _ l0_0 l0_1 from ⟨SlV.mk hr0_0 hc0_0, SlV.mk hr0_1 hc0_1⟩)
  have VG := Lib.hid (show HostV w _ _ l1_0 l1_1 from ⟨SlV.mk hr1_0 hc1_0, SlV.mk hr1_1 hc1_1⟩)
  clear hr0_0 hc0_0 hr0_1 hc0_1 hr1_0 hc1_0 hr1_1 hc1_1
  have mixed : Try.prog.follows Departure.mixedOrders = true := by kernel_rfl
  have hu := Try.underlying25
  have CH := Lib.hid (show Chain [w] w from ⟨Below.refl _ _, trivial⟩)
  go_enter Try.func7, Try.ntmps7
  go_upto_region 1 with (fail)
  replace CH := Lib.hid ((CH.out.alloc (.cells #[.slice A0_0 l0_0.length c0_0, .slice A0_1 l0_1.length c0_1] 25)).alloc (.cells #[.slice A1_0 l1_0.length c1_0, .slice A1_1 l1_1.length c1_1] 25))
  have BK5 := Lib.hid (blk_alloc (blk_new w (.cells #[.slice A0_0 l0_0.length c0_0, .slice A0_1 l0_1.length c0_1] 25)) (.cells #[.slice A1_0 l1_0.length c1_0, .slice A1_1 l1_1.length c1_1] 25))
  have BK6 := Lib.hid (blk_new1 w (.cells #[.slice A0_0 l0_0.length c0_0, .slice A0_1 l0_1.length c0_1] 25) (.cells #[.slice A1_0 l1_0.length c1_0, .slice A1_1 l1_1.length c1_1] 25))
  generalize (w.alloc (.cells #[.slice A0_0 l0_0.length c0_0, .slice A0_1 l0_1.length c0_1] 25)).alloc (.cells #[.slice A1_0 l1_0.length c1_0, .slice A1_1 l1_1.length c1_1] 25) = y1 at CH BK5 BK6 ⊢
  replace CH := Lib.hid CH.out.push
  cases hfh : few3 l0_0 l0_1
  · skip
    replace CH := Lib.hid CH.out.drew
    refine start_ (n := 30) (S := fun w' => w'.cell? ⟨w.heap.size, 0, none⟩ = some (.slice A0_0 l0_0.length c0_0) ∧ w'.cell? ⟨w.heap.size, 1, none⟩ = some (.slice A0_1 l0_1.length c0_1) ∧ w'.cell? ⟨w.heap.size + 1, 0, none⟩ = some (.slice A1_0 l1_0.length c1_0) ∧ w'.cell? ⟨w.heap.size + 1, 1, none⟩ = some (.slice A1_1 l1_1.length c1_1)) (ds := []) (ms_ 30 0) (by kernel_rfl) rfl rfl ⟨((box_cell BK5.out CH.out.head 0).trans rfl), ((box_cell BK5.out CH.out.head 1).trans rfl), ((box_cell BK6.out CH.out.head 0).trans rfl), ((box_cell BK6.out CH.out.head 1).trans rfl)⟩ (fun hHeld => ?_)
    refine with_tabW ferrylaw03_HostPages.tab1 ferrylaw03_HostPages.bits1 (fun HT_ HW_ => ?_)
    refine take_ (i := 0) (N := some 23) (v := ?_) (a' := ?_) (ms_ 30 1) rfl rfl (take_ofW HT_.out HW_.out (by kernel_rfl)) (fun _ _ _ h => h) (Or.inl ⟨by rfl, ?_⟩) hHeld ?_ ?_
    rotate_left
    · rintro w' ⟨s0, s1, s2, s3⟩
      go_simp
      with_reducible rfl
    rotate_left
    · simp only [Act.put, List.setIfInBounds_toArray, List.set_cons_zero, List.set_cons_succ, i64_w, i32_w]
      rfl
    refine one_ (i := 1) (N := some 24) (ms_ 30 2) rfl rfl (one_of HT_.out (by kernel_rfl)) (by decide) (fun K hK => ?_)
    refine goes_ Try.func8 (by kernel_rfl) rfl #[.agg #[.slice A0_0 l0_0.length c0_0, .slice A0_1 l0_1.length c0_1]] (by rfl) rfl rfl (by simp only [List.map_toArray, List.map_cons, List.map_nil]; rfl) ?_
    with_reducible refine (few_L (VH.out.below CH.out.tail.head)).mono ?_
    rintro e wx ⟨rfl, hb⟩
    refine ⟨_, rfl, ?_⟩
    replace CH := Lib.hid (CH.out.step hb)
    clear hb
    refine hK.out _ _ ⟨((box_cell BK5.out CH.out.head 0).trans rfl), ((box_cell BK5.out CH.out.head 1).trans rfl), ((box_cell BK6.out CH.out.head 0).trans rfl), ((box_cell BK6.out CH.out.head 1).trans rfl)⟩ (fun hHeld => ?_)
    clear hK K
    refine norm_ (a' := ?_) ?_ ?_
    rotate_left
    · show Act.put _ (some 24) _ = _
      simp only [Act.put, List.setIfInBounds_toArray, List.set_cons_zero, List.set_cons_succ, i64_w, i32_w]
      rfl
    refine pure_ (i := 2) (N := some 25) (v := ?_) (a' := ?_) (ms_ 30 3) rfl rfl (any_of HT_.out (by kernel_rfl)) (fun _ _ _ h => h) (Or.inl ⟨by rfl, ?_⟩) ?_ ?_
    rotate_left
    · intro w'
      go_simp
      with_reducible rfl
    rotate_left
    · simp only [Act.put, List.setIfInBounds_toArray, List.set_cons_zero, List.set_cons_succ, i64_w, i32_w]
      rfl
    refine pure_ (i := 3) (N := some 26) (v := ?_) (a' := ?_) (ms_ 30 4) rfl rfl (any_of HT_.out (by kernel_rfl)) (fun _ _ _ h => h) (Or.inl ⟨by rfl, ?_⟩) ?_ ?_
    rotate_left
    · intro w'
      go_simp
      with_reducible rfl
    rotate_left
    · simp only [Act.put, List.setIfInBounds_toArray, List.set_cons_zero, List.set_cons_succ, i64_w, i32_w]
      rfl
    refine pure_ (i := 4) (N := some 27) (v := undef) (a' := ?_) (ms_ 30 5) rfl rfl (any_of HT_.out (by kernel_rfl)) (fun _ _ _ h => h) (Or.inr ⟨by rfl, rfl⟩) ?_ ?_
    rotate_left
    · simp only [Act.put, List.setIfInBounds_toArray, List.set_cons_zero, List.set_cons_succ, i64_w, i32_w]
      rfl
    refine pure_ (i := 5) (N := some 28) (v := undef) (a' := ?_) (ms_ 30 6) rfl rfl (any_of HT_.out (by kernel_rfl)) (fun _ _ _ h => h) (Or.inr ⟨by rfl, rfl⟩) ?_ ?_
    rotate_left
    · simp only [Act.put, List.setIfInBounds_toArray, List.set_cons_zero, List.set_cons_succ, i64_w, i32_w]
      rfl
    refine pure_ (i := 6) (N := some 29) (v := undef) (a' := ?_) (ms_ 30 7) rfl rfl (any_of HT_.out (by kernel_rfl)) (fun _ _ _ h => h) (Or.inr ⟨by rfl, rfl⟩) ?_ ?_
    rotate_left
    · simp only [Act.put, List.setIfInBounds_toArray, List.set_cons_zero, List.set_cons_succ, i64_w, i32_w]
      rfl
    refine pure_ (i := 7) (N := some 30) (v := ?_) (a' := ?_) (ms_ 30 8) rfl rfl (any_of HT_.out (by kernel_rfl)) (fun _ _ _ h => h) (Or.inl ⟨by rfl, ?_⟩) ?_ ?_
    rotate_left
    · intro w'
      go_simp
      with_reducible rfl
    rotate_left
    · simp only [Act.put, List.setIfInBounds_toArray, List.set_cons_zero, List.set_cons_succ, i64_w, i32_w]
      rfl
    refine pure_ (i := 8) (N := some 31) (v := ?_) (a' := ?_) (ms_ 30 9) rfl rfl (any_of HT_.out (by kernel_rfl)) (fun _ _ _ h => h) (Or.inl ⟨by rfl, ?_⟩) ?_ ?_
    rotate_left
    · intro w'
      go_simp
      with_reducible rfl
    rotate_left
    · simp only [Act.put, List.setIfInBounds_toArray, List.set_cons_zero, List.set_cons_succ, i64_w, i32_w]
      rfl
    refine pure_ (i := 9) (N := some 32) (v := undef) (a' := ?_) (ms_ 30 10) rfl rfl (any_of HT_.out (by kernel_rfl)) (fun _ _ _ h => h) (Or.inr ⟨by rfl, rfl⟩) ?_ ?_
    rotate_left
    · simp only [Act.put, List.setIfInBounds_toArray, List.set_cons_zero, List.set_cons_succ, i64_w, i32_w]
      rfl
    refine pure_ (i := 10) (N := some 33) (v := undef) (a' := ?_) (ms_ 30 11) rfl rfl (any_of HT_.out (by kernel_rfl)) (fun _ _ _ h => h) (Or.inr ⟨by rfl, rfl⟩) ?_ ?_
    rotate_left
    · simp only [Act.put, List.setIfInBounds_toArray, List.set_cons_zero, List.set_cons_succ, i64_w, i32_w]
      rfl
    refine pure_ (i := 11) (N := some 34) (v := undef) (a' := ?_) (ms_ 30 12) rfl rfl (any_of HT_.out (by kernel_rfl)) (fun _ _ _ h => h) (Or.inr ⟨by rfl, rfl⟩) ?_ ?_
    rotate_left
    · simp only [Act.put, List.setIfInBounds_toArray, List.set_cons_zero, List.set_cons_succ, i64_w, i32_w]
      rfl
    refine pure_ (i := 12) (N := some 35) (v := undef) (a' := ?_) (ms_ 30 13) rfl rfl (any_of HT_.out (by kernel_rfl)) (fun _ _ _ h => h) (Or.inr ⟨by rfl, rfl⟩) ?_ ?_
    rotate_left
    · simp only [Act.put, List.setIfInBounds_toArray, List.set_cons_zero, List.set_cons_succ, i64_w, i32_w]
      rfl
    refine pure_ (i := 13) (N := some 36) (v := undef) (a' := ?_) (ms_ 30 14) rfl rfl (any_of HT_.out (by kernel_rfl)) (fun _ _ _ h => h) (Or.inr ⟨by rfl, rfl⟩) ?_ ?_
    rotate_left
    · simp only [Act.put, List.setIfInBounds_toArray, List.set_cons_zero, List.set_cons_succ, i64_w, i32_w]
      rfl
    refine pure_ (i := 14) (N := some 37) (v := ?_) (a' := ?_) (ms_ 30 15) rfl rfl (any_of HT_.out (by kernel_rfl)) (fun _ _ _ h => h) (Or.inl ⟨by rfl, ?_⟩) ?_ ?_
    rotate_left
    · intro w'
      go_simp
      with_reducible rfl
    rotate_left
    · simp only [Act.put, List.setIfInBounds_toArray, List.set_cons_zero, List.set_cons_succ, i64_w, i32_w]
      rfl
    refine pure_ (i := 15) (N := some 38) (v := ?_) (a' := ?_) (ms_ 30 16) rfl rfl (any_of HT_.out (by kernel_rfl)) (fun _ _ _ h => h) (Or.inl ⟨by rfl, ?_⟩) ?_ ?_
    rotate_left
    · intro w'
      go_simp
      with_reducible rfl
    rotate_left
    · simp only [Act.put, List.setIfInBounds_toArray, List.set_cons_zero, List.set_cons_succ, i64_w, i32_w]
      rfl
    refine pure_ (i := 16) (N := some 39) (v := undef) (a' := ?_) (ms_ 30 17) rfl rfl (any_of HT_.out (by kernel_rfl)) (fun _ _ _ h => h) (Or.inr ⟨by rfl, rfl⟩) ?_ ?_
    rotate_left
    · simp only [Act.put, List.setIfInBounds_toArray, List.set_cons_zero, List.set_cons_succ, i64_w, i32_w]
      rfl
    refine pure_ (i := 17) (N := some 40) (v := undef) (a' := ?_) (ms_ 30 18) rfl rfl (any_of HT_.out (by kernel_rfl)) (fun _ _ _ h => h) (Or.inr ⟨by rfl, rfl⟩) ?_ ?_
    rotate_left
    · simp only [Act.put, List.setIfInBounds_toArray, List.set_cons_zero, List.set_cons_succ, i64_w, i32_w]
      rfl
    refine pure_ (i := 18) (N := some 41) (v := undef) (a' := ?_) (ms_ 30 19) rfl rfl (any_of HT_.out (by kernel_rfl)) (fun _ _ _ h => h) (Or.inr ⟨by rfl, rfl⟩) ?_ ?_
    rotate_left
    · simp only [Act.put, List.setIfInBounds_toArray, List.set_cons_zero, List.set_cons_succ, i64_w, i32_w]
      rfl
    refine pure_ (i := 19) (N := some 42) (v := undef) (a' := ?_) (ms_ 30 20) rfl rfl (any_of HT_.out (by kernel_rfl)) (fun _ _ _ h => h) (Or.inr ⟨by rfl, rfl⟩) ?_ ?_
    rotate_left
    · simp only [Act.put, List.setIfInBounds_toArray, List.set_cons_zero, List.set_cons_succ, i64_w, i32_w]
      rfl
    refine pure_ (i := 20) (N := some 43) (v := undef) (a' := ?_) (ms_ 30 21) rfl rfl (any_of HT_.out (by kernel_rfl)) (fun _ _ _ h => h) (Or.inr ⟨by rfl, rfl⟩) ?_ ?_
    rotate_left
    · simp only [Act.put, List.setIfInBounds_toArray, List.set_cons_zero, List.set_cons_succ, i64_w, i32_w]
      rfl
    refine pure_ (i := 21) (N := some 44) (v := undef) (a' := ?_) (ms_ 30 22) rfl rfl (any_of HT_.out (by kernel_rfl)) (fun _ _ _ h => h) (Or.inr ⟨by rfl, rfl⟩) ?_ ?_
    rotate_left
    · simp only [Act.put, List.setIfInBounds_toArray, List.set_cons_zero, List.set_cons_succ, i64_w, i32_w]
      rfl
    refine pure_ (i := 22) (N := some 45) (v := undef) (a' := ?_) (ms_ 30 23) rfl rfl (any_of HT_.out (by kernel_rfl)) (fun _ _ _ h => h) (Or.inr ⟨by rfl, rfl⟩) ?_ ?_
    rotate_left
    · simp only [Act.put, List.setIfInBounds_toArray, List.set_cons_zero, List.set_cons_succ, i64_w, i32_w]
      rfl
    refine pure_ (i := 23) (N := some 46) (v := ?_) (a' := ?_) (ms_ 30 24) rfl rfl (any_of HT_.out (by kernel_rfl)) (fun _ _ _ h => h) (Or.inl ⟨by rfl, ?_⟩) ?_ ?_
    rotate_left
    · intro w'
      go_simp
      with_reducible rfl
    rotate_left
    · simp only [Act.put, List.setIfInBounds_toArray, List.set_cons_zero, List.set_cons_succ, i64_w, i32_w]
      rfl
    refine pure_ (i := 24) (N := some 47) (v := ?_) (a' := ?_) (ms_ 30 25) rfl rfl (any_of HT_.out (by kernel_rfl)) (fun _ _ _ h => h) (Or.inl ⟨by rfl, ?_⟩) ?_ ?_
    rotate_left
    · intro w'
      go_simp
      with_reducible rfl
    rotate_left
    · simp only [Act.put, List.setIfInBounds_toArray, List.set_cons_zero, List.set_cons_succ, i64_w, i32_w]
      rfl
    refine pure_ (i := 25) (N := some 48) (v := undef) (a' := ?_) (ms_ 30 26) rfl rfl (any_of HT_.out (by kernel_rfl)) (fun _ _ _ h => h) (Or.inr ⟨by rfl, rfl⟩) ?_ ?_
    rotate_left
    · simp only [Act.put, List.setIfInBounds_toArray, List.set_cons_zero, List.set_cons_succ, i64_w, i32_w]
      rfl
    refine pure_ (i := 26) (N := some 49) (v := undef) (a' := ?_) (ms_ 30 27) rfl rfl (any_of HT_.out (by kernel_rfl)) (fun _ _ _ h => h) (Or.inr ⟨by rfl, rfl⟩) ?_ ?_
    rotate_left
    · simp only [Act.put, List.setIfInBounds_toArray, List.set_cons_zero, List.set_cons_succ, i64_w, i32_w]
      rfl
    refine pure_ (i := 27) (N := some 50) (v := undef) (a' := ?_) (ms_ 30 28) rfl rfl (any_of HT_.out (by kernel_rfl)) (fun _ _ _ h => h) (Or.inr ⟨by rfl, rfl⟩) ?_ ?_
    rotate_left
    · simp only [Act.put, List.setIfInBounds_toArray, List.set_cons_zero, List.set_cons_succ, i64_w, i32_w]
      rfl
    refine pure_ (i := 28) (N := some 51) (v := undef) (a' := ?_) (ms_ 30 29) rfl rfl (any_of HT_.out (by kernel_rfl)) (fun _ _ _ h => h) (Or.inr ⟨by rfl, rfl⟩) ?_ ?_
    rotate_left
    · simp only [Act.put, List.setIfInBounds_toArray, List.set_cons_zero, List.set_cons_succ, i64_w, i32_w]
      rfl
    refine pure_ (i := 29) (N := some 52) (v := ?_) (a' := ?_) (ms_ 30 30) rfl rfl (any_of HT_.out (by kernel_rfl)) (fun _ _ _ h => h) (Or.inl ⟨by rfl, ?_⟩) ?_ ?_
    rotate_left
    · intro w'
      go_simp
      with_reducible rfl
    rotate_left
    · simp only [Act.put, List.setIfInBounds_toArray, List.set_cons_zero, List.set_cons_succ, i64_w, i32_w]
      rfl
    refine done_ (done_of HT_.out (by kernel_rfl)) ?_
    have q5_0 := (box_cell BK5.out CH.out.head 0).trans rfl
    have q5_1 := (box_cell BK5.out CH.out.head 1).trans rfl
    have q6_0 := (box_cell BK6.out CH.out.head 0).trans rfl
    have q6_1 := (box_cell BK6.out CH.out.head 1).trans rfl
    go_wp2_with (first | (go_at_call 8; (with_reducible refine (few_L (VH.out.below CH.out.tail.head)).mono ?_); rintro e wx ⟨rfl, hb⟩; replace CH := Lib.hid (CH.out.step hb); clear hb) | (go_at_call 10; (with_reducible refine awake_L.mono ?_); rintro e wx ⟨rfl, hb⟩; replace CH := Lib.hid (CH.out.step hb); clear hb))
    go_ret
    exact ⟨rfl, CH.out.tail.head⟩
  have HFH := Lib.hid (show l0_0.length ≤ 70 ∧ l0_1.length ≤ 200 from of_decide_eq_true hfh)
  cases hfg : few3 l1_0 l1_1
  · skip
    replace CH := Lib.hid CH.out.drew
    refine start_ (n := 30) (S := fun w' => w'.cell? ⟨w.heap.size, 0, none⟩ = some (.slice A0_0 l0_0.length c0_0) ∧ w'.cell? ⟨w.heap.size, 1, none⟩ = some (.slice A0_1 l0_1.length c0_1) ∧ w'.cell? ⟨w.heap.size + 1, 0, none⟩ = some (.slice A1_0 l1_0.length c1_0) ∧ w'.cell? ⟨w.heap.size + 1, 1, none⟩ = some (.slice A1_1 l1_1.length c1_1)) (ds := []) (ms_ 30 0) (by kernel_rfl) rfl rfl ⟨((box_cell BK5.out CH.out.head 0).trans rfl), ((box_cell BK5.out CH.out.head 1).trans rfl), ((box_cell BK6.out CH.out.head 0).trans rfl), ((box_cell BK6.out CH.out.head 1).trans rfl)⟩ (fun hHeld => ?_)
    refine with_tabW ferrylaw03_HostPages.tab1 ferrylaw03_HostPages.bits1 (fun HT_ HW_ => ?_)
    refine take_ (i := 0) (N := some 23) (v := ?_) (a' := ?_) (ms_ 30 1) rfl rfl (take_ofW HT_.out HW_.out (by kernel_rfl)) (fun _ _ _ h => h) (Or.inl ⟨by rfl, ?_⟩) hHeld ?_ ?_
    rotate_left
    · rintro w' ⟨s0, s1, s2, s3⟩
      go_simp
      with_reducible rfl
    rotate_left
    · simp only [Act.put, List.setIfInBounds_toArray, List.set_cons_zero, List.set_cons_succ, i64_w, i32_w]
      rfl
    refine one_ (i := 1) (N := some 24) (ms_ 30 2) rfl rfl (one_of HT_.out (by kernel_rfl)) (by decide) (fun K hK => ?_)
    refine goes_ Try.func8 (by kernel_rfl) rfl #[.agg #[.slice A0_0 l0_0.length c0_0, .slice A0_1 l0_1.length c0_1]] (by rfl) rfl rfl (by simp only [List.map_toArray, List.map_cons, List.map_nil]; rfl) ?_
    with_reducible refine (few_L (VH.out.below CH.out.tail.head)).mono ?_
    rintro e wx ⟨rfl, hb⟩
    refine ⟨_, rfl, ?_⟩
    replace CH := Lib.hid (CH.out.step hb)
    clear hb
    refine hK.out _ _ ⟨((box_cell BK5.out CH.out.head 0).trans rfl), ((box_cell BK5.out CH.out.head 1).trans rfl), ((box_cell BK6.out CH.out.head 0).trans rfl), ((box_cell BK6.out CH.out.head 1).trans rfl)⟩ (fun hHeld => ?_)
    clear hK K
    refine norm_ (a' := ?_) ?_ ?_
    rotate_left
    · show Act.put _ (some 24) _ = _
      simp only [Act.put, List.setIfInBounds_toArray, List.set_cons_zero, List.set_cons_succ, i64_w, i32_w]
      rfl
    refine pure_ (i := 2) (N := some 25) (v := ?_) (a' := ?_) (ms_ 30 3) rfl rfl (any_of HT_.out (by kernel_rfl)) (fun _ _ _ h => h) (Or.inl ⟨by rfl, ?_⟩) ?_ ?_
    rotate_left
    · intro w'
      go_simp
      with_reducible rfl
    rotate_left
    · simp only [Act.put, List.setIfInBounds_toArray, List.set_cons_zero, List.set_cons_succ, i64_w, i32_w]
      rfl
    refine pure_ (i := 3) (N := some 26) (v := ?_) (a' := ?_) (ms_ 30 4) rfl rfl (any_of HT_.out (by kernel_rfl)) (fun _ _ _ h => h) (Or.inl ⟨by rfl, ?_⟩) ?_ ?_
    rotate_left
    · intro w'
      go_simp
      with_reducible rfl
    rotate_left
    · simp only [Act.put, List.setIfInBounds_toArray, List.set_cons_zero, List.set_cons_succ, i64_w, i32_w]
      rfl
    refine take_ (i := 4) (N := some 27) (v := ?_) (a' := ?_) (ms_ 30 5) rfl rfl (take_ofW HT_.out HW_.out (by kernel_rfl)) (fun _ _ _ h => h) (Or.inl ⟨by rfl, ?_⟩) hHeld ?_ ?_
    rotate_left
    · rintro w' ⟨s0, s1, s2, s3⟩
      go_simp
      with_reducible rfl
    rotate_left
    · simp only [Act.put, List.setIfInBounds_toArray, List.set_cons_zero, List.set_cons_succ, i64_w, i32_w]
      rfl
    refine one_ (i := 5) (N := some 28) (ms_ 30 6) rfl rfl (one_of HT_.out (by kernel_rfl)) (by decide) (fun K hK => ?_)
    refine goes_ Try.func8 (by kernel_rfl) rfl #[.agg #[.slice A1_0 l1_0.length c1_0, .slice A1_1 l1_1.length c1_1]] (by rfl) rfl rfl (by simp only [List.map_toArray, List.map_cons, List.map_nil]; rfl) ?_
    with_reducible refine (few_L (VG.out.below CH.out.tail.head)).mono ?_
    rintro e wx ⟨rfl, hb⟩
    refine ⟨_, rfl, ?_⟩
    replace CH := Lib.hid (CH.out.step hb)
    clear hb
    refine hK.out _ _ ⟨((box_cell BK5.out CH.out.head 0).trans rfl), ((box_cell BK5.out CH.out.head 1).trans rfl), ((box_cell BK6.out CH.out.head 0).trans rfl), ((box_cell BK6.out CH.out.head 1).trans rfl)⟩ (fun hHeld => ?_)
    clear hK K
    refine norm_ (a' := ?_) ?_ ?_
    rotate_left
    · show Act.put _ (some 28) _ = _
      simp only [Act.put, List.setIfInBounds_toArray, List.set_cons_zero, List.set_cons_succ, i64_w, i32_w]
      rfl
    refine pure_ (i := 6) (N := some 29) (v := ?_) (a' := ?_) (ms_ 30 7) rfl rfl (any_of HT_.out (by kernel_rfl)) (fun _ _ _ h => h) (Or.inl ⟨by rfl, ?_⟩) ?_ ?_
    rotate_left
    · intro w'
      go_simp
      with_reducible rfl
    rotate_left
    · simp only [Act.put, List.setIfInBounds_toArray, List.set_cons_zero, List.set_cons_succ, i64_w, i32_w]
      rfl
    refine pure_ (i := 7) (N := some 30) (v := ?_) (a' := ?_) (ms_ 30 8) rfl rfl (any_of HT_.out (by kernel_rfl)) (fun _ _ _ h => h) (Or.inl ⟨by rfl, ?_⟩) ?_ ?_
    rotate_left
    · intro w'
      go_simp
      with_reducible rfl
    rotate_left
    · simp only [Act.put, List.setIfInBounds_toArray, List.set_cons_zero, List.set_cons_succ, i64_w, i32_w]
      rfl
    refine pure_ (i := 8) (N := some 31) (v := ?_) (a' := ?_) (ms_ 30 9) rfl rfl (any_of HT_.out (by kernel_rfl)) (fun _ _ _ h => h) (Or.inl ⟨by rfl, ?_⟩) ?_ ?_
    rotate_left
    · intro w'
      go_simp
      with_reducible rfl
    rotate_left
    · simp only [Act.put, List.setIfInBounds_toArray, List.set_cons_zero, List.set_cons_succ, i64_w, i32_w]
      rfl
    refine pure_ (i := 9) (N := some 32) (v := undef) (a' := ?_) (ms_ 30 10) rfl rfl (any_of HT_.out (by kernel_rfl)) (fun _ _ _ h => h) (Or.inr ⟨by rfl, rfl⟩) ?_ ?_
    rotate_left
    · simp only [Act.put, List.setIfInBounds_toArray, List.set_cons_zero, List.set_cons_succ, i64_w, i32_w]
      rfl
    refine pure_ (i := 10) (N := some 33) (v := undef) (a' := ?_) (ms_ 30 11) rfl rfl (any_of HT_.out (by kernel_rfl)) (fun _ _ _ h => h) (Or.inr ⟨by rfl, rfl⟩) ?_ ?_
    rotate_left
    · simp only [Act.put, List.setIfInBounds_toArray, List.set_cons_zero, List.set_cons_succ, i64_w, i32_w]
      rfl
    refine pure_ (i := 11) (N := some 34) (v := undef) (a' := ?_) (ms_ 30 12) rfl rfl (any_of HT_.out (by kernel_rfl)) (fun _ _ _ h => h) (Or.inr ⟨by rfl, rfl⟩) ?_ ?_
    rotate_left
    · simp only [Act.put, List.setIfInBounds_toArray, List.set_cons_zero, List.set_cons_succ, i64_w, i32_w]
      rfl
    refine pure_ (i := 12) (N := some 35) (v := undef) (a' := ?_) (ms_ 30 13) rfl rfl (any_of HT_.out (by kernel_rfl)) (fun _ _ _ h => h) (Or.inr ⟨by rfl, rfl⟩) ?_ ?_
    rotate_left
    · simp only [Act.put, List.setIfInBounds_toArray, List.set_cons_zero, List.set_cons_succ, i64_w, i32_w]
      rfl
    refine pure_ (i := 13) (N := some 36) (v := undef) (a' := ?_) (ms_ 30 14) rfl rfl (any_of HT_.out (by kernel_rfl)) (fun _ _ _ h => h) (Or.inr ⟨by rfl, rfl⟩) ?_ ?_
    rotate_left
    · simp only [Act.put, List.setIfInBounds_toArray, List.set_cons_zero, List.set_cons_succ, i64_w, i32_w]
      rfl
    refine pure_ (i := 14) (N := some 37) (v := ?_) (a' := ?_) (ms_ 30 15) rfl rfl (any_of HT_.out (by kernel_rfl)) (fun _ _ _ h => h) (Or.inl ⟨by rfl, ?_⟩) ?_ ?_
    rotate_left
    · intro w'
      go_simp
      with_reducible rfl
    rotate_left
    · simp only [Act.put, List.setIfInBounds_toArray, List.set_cons_zero, List.set_cons_succ, i64_w, i32_w]
      rfl
    refine pure_ (i := 15) (N := some 38) (v := ?_) (a' := ?_) (ms_ 30 16) rfl rfl (any_of HT_.out (by kernel_rfl)) (fun _ _ _ h => h) (Or.inl ⟨by rfl, ?_⟩) ?_ ?_
    rotate_left
    · intro w'
      go_simp
      with_reducible rfl
    rotate_left
    · simp only [Act.put, List.setIfInBounds_toArray, List.set_cons_zero, List.set_cons_succ, i64_w, i32_w]
      rfl
    refine pure_ (i := 16) (N := some 39) (v := undef) (a' := ?_) (ms_ 30 17) rfl rfl (any_of HT_.out (by kernel_rfl)) (fun _ _ _ h => h) (Or.inr ⟨by rfl, rfl⟩) ?_ ?_
    rotate_left
    · simp only [Act.put, List.setIfInBounds_toArray, List.set_cons_zero, List.set_cons_succ, i64_w, i32_w]
      rfl
    refine pure_ (i := 17) (N := some 40) (v := undef) (a' := ?_) (ms_ 30 18) rfl rfl (any_of HT_.out (by kernel_rfl)) (fun _ _ _ h => h) (Or.inr ⟨by rfl, rfl⟩) ?_ ?_
    rotate_left
    · simp only [Act.put, List.setIfInBounds_toArray, List.set_cons_zero, List.set_cons_succ, i64_w, i32_w]
      rfl
    refine pure_ (i := 18) (N := some 41) (v := undef) (a' := ?_) (ms_ 30 19) rfl rfl (any_of HT_.out (by kernel_rfl)) (fun _ _ _ h => h) (Or.inr ⟨by rfl, rfl⟩) ?_ ?_
    rotate_left
    · simp only [Act.put, List.setIfInBounds_toArray, List.set_cons_zero, List.set_cons_succ, i64_w, i32_w]
      rfl
    refine pure_ (i := 19) (N := some 42) (v := undef) (a' := ?_) (ms_ 30 20) rfl rfl (any_of HT_.out (by kernel_rfl)) (fun _ _ _ h => h) (Or.inr ⟨by rfl, rfl⟩) ?_ ?_
    rotate_left
    · simp only [Act.put, List.setIfInBounds_toArray, List.set_cons_zero, List.set_cons_succ, i64_w, i32_w]
      rfl
    refine pure_ (i := 20) (N := some 43) (v := undef) (a' := ?_) (ms_ 30 21) rfl rfl (any_of HT_.out (by kernel_rfl)) (fun _ _ _ h => h) (Or.inr ⟨by rfl, rfl⟩) ?_ ?_
    rotate_left
    · simp only [Act.put, List.setIfInBounds_toArray, List.set_cons_zero, List.set_cons_succ, i64_w, i32_w]
      rfl
    refine pure_ (i := 21) (N := some 44) (v := undef) (a' := ?_) (ms_ 30 22) rfl rfl (any_of HT_.out (by kernel_rfl)) (fun _ _ _ h => h) (Or.inr ⟨by rfl, rfl⟩) ?_ ?_
    rotate_left
    · simp only [Act.put, List.setIfInBounds_toArray, List.set_cons_zero, List.set_cons_succ, i64_w, i32_w]
      rfl
    refine pure_ (i := 22) (N := some 45) (v := undef) (a' := ?_) (ms_ 30 23) rfl rfl (any_of HT_.out (by kernel_rfl)) (fun _ _ _ h => h) (Or.inr ⟨by rfl, rfl⟩) ?_ ?_
    rotate_left
    · simp only [Act.put, List.setIfInBounds_toArray, List.set_cons_zero, List.set_cons_succ, i64_w, i32_w]
      rfl
    refine pure_ (i := 23) (N := some 46) (v := ?_) (a' := ?_) (ms_ 30 24) rfl rfl (any_of HT_.out (by kernel_rfl)) (fun _ _ _ h => h) (Or.inl ⟨by rfl, ?_⟩) ?_ ?_
    rotate_left
    · intro w'
      go_simp
      with_reducible rfl
    rotate_left
    · simp only [Act.put, List.setIfInBounds_toArray, List.set_cons_zero, List.set_cons_succ, i64_w, i32_w]
      rfl
    refine pure_ (i := 24) (N := some 47) (v := ?_) (a' := ?_) (ms_ 30 25) rfl rfl (any_of HT_.out (by kernel_rfl)) (fun _ _ _ h => h) (Or.inl ⟨by rfl, ?_⟩) ?_ ?_
    rotate_left
    · intro w'
      go_simp
      with_reducible rfl
    rotate_left
    · simp only [Act.put, List.setIfInBounds_toArray, List.set_cons_zero, List.set_cons_succ, i64_w, i32_w]
      rfl
    refine pure_ (i := 25) (N := some 48) (v := undef) (a' := ?_) (ms_ 30 26) rfl rfl (any_of HT_.out (by kernel_rfl)) (fun _ _ _ h => h) (Or.inr ⟨by rfl, rfl⟩) ?_ ?_
    rotate_left
    · simp only [Act.put, List.setIfInBounds_toArray, List.set_cons_zero, List.set_cons_succ, i64_w, i32_w]
      rfl
    refine pure_ (i := 26) (N := some 49) (v := undef) (a' := ?_) (ms_ 30 27) rfl rfl (any_of HT_.out (by kernel_rfl)) (fun _ _ _ h => h) (Or.inr ⟨by rfl, rfl⟩) ?_ ?_
    rotate_left
    · simp only [Act.put, List.setIfInBounds_toArray, List.set_cons_zero, List.set_cons_succ, i64_w, i32_w]
      rfl
    refine pure_ (i := 27) (N := some 50) (v := undef) (a' := ?_) (ms_ 30 28) rfl rfl (any_of HT_.out (by kernel_rfl)) (fun _ _ _ h => h) (Or.inr ⟨by rfl, rfl⟩) ?_ ?_
    rotate_left
    · simp only [Act.put, List.setIfInBounds_toArray, List.set_cons_zero, List.set_cons_succ, i64_w, i32_w]
      rfl
    refine pure_ (i := 28) (N := some 51) (v := undef) (a' := ?_) (ms_ 30 29) rfl rfl (any_of HT_.out (by kernel_rfl)) (fun _ _ _ h => h) (Or.inr ⟨by rfl, rfl⟩) ?_ ?_
    rotate_left
    · simp only [Act.put, List.setIfInBounds_toArray, List.set_cons_zero, List.set_cons_succ, i64_w, i32_w]
      rfl
    refine pure_ (i := 29) (N := some 52) (v := ?_) (a' := ?_) (ms_ 30 30) rfl rfl (any_of HT_.out (by kernel_rfl)) (fun _ _ _ h => h) (Or.inl ⟨by rfl, ?_⟩) ?_ ?_
    rotate_left
    · intro w'
      go_simp
      with_reducible rfl
    rotate_left
    · simp only [Act.put, List.setIfInBounds_toArray, List.set_cons_zero, List.set_cons_succ, i64_w, i32_w]
      rfl
    refine done_ (done_of HT_.out (by kernel_rfl)) ?_
    have q5_0 := (box_cell BK5.out CH.out.head 0).trans rfl
    have q5_1 := (box_cell BK5.out CH.out.head 1).trans rfl
    have q6_0 := (box_cell BK6.out CH.out.head 0).trans rfl
    have q6_1 := (box_cell BK6.out CH.out.head 1).trans rfl
    go_wp2_with (first | (go_at_call 8; (with_reducible refine (few_L (VH.out.below CH.out.tail.head)).mono ?_); rintro e wx ⟨rfl, hb⟩; replace CH := Lib.hid (CH.out.step hb); clear hb; have q5_0 := (box_cell BK5.out CH.out.head 0).trans rfl; have q5_1 := (box_cell BK5.out CH.out.head 1).trans rfl; have q6_0 := (box_cell BK6.out CH.out.head 0).trans rfl; have q6_1 := (box_cell BK6.out CH.out.head 1).trans rfl) | (go_at_call 8; (with_reducible refine (few_L (VG.out.below CH.out.tail.head)).mono ?_); rintro e wx ⟨rfl, hb⟩; replace CH := Lib.hid (CH.out.step hb); clear hb) | (go_at_call 10; (with_reducible refine awake_L.mono ?_); rintro e wx ⟨rfl, hb⟩; replace CH := Lib.hid (CH.out.step hb); clear hb))
    go_ret
    exact ⟨rfl, CH.out.tail.head⟩
  have HFG := Lib.hid (show l1_0.length ≤ 70 ∧ l1_1.length ≤ 200 from of_decide_eq_true hfg)
  have HL := Lib.hid (show l0_0.length ≤ 1000000 ∧ l0_1.length ≤ 1000000 by have := HFH.out; omega)
  replace CH := Lib.hid CH.out.drew
  refine start_ (n := 30) (S := fun w' => w'.cell? ⟨w.heap.size, 0, none⟩ = some (.slice A0_0 l0_0.length c0_0) ∧ w'.cell? ⟨w.heap.size, 1, none⟩ = some (.slice A0_1 l0_1.length c0_1) ∧ w'.cell? ⟨w.heap.size + 1, 0, none⟩ = some (.slice A1_0 l1_0.length c1_0) ∧ w'.cell? ⟨w.heap.size + 1, 1, none⟩ = some (.slice A1_1 l1_1.length c1_1)) (ds := []) (ms_ 30 0) (by kernel_rfl) rfl rfl ⟨((box_cell BK5.out CH.out.head 0).trans rfl), ((box_cell BK5.out CH.out.head 1).trans rfl), ((box_cell BK6.out CH.out.head 0).trans rfl), ((box_cell BK6.out CH.out.head 1).trans rfl)⟩ (fun hHeld => ?_)
  refine with_tabW ferrylaw03_HostPages.tab1 ferrylaw03_HostPages.bits1 (fun HT_ HW_ => ?_)
  refine take_ (i := 0) (N := some 23) (v := ?_) (a' := ?_) (ms_ 30 1) rfl rfl (take_ofW HT_.out HW_.out (by kernel_rfl)) (fun _ _ _ h => h) (Or.inl ⟨by rfl, ?_⟩) hHeld ?_ ?_
  rotate_left
  · rintro w' ⟨s0, s1, s2, s3⟩
    go_simp
    with_reducible rfl
  rotate_left
  · simp only [Act.put, List.setIfInBounds_toArray, List.set_cons_zero, List.set_cons_succ, i64_w, i32_w]
    rfl
  refine one_ (i := 1) (N := some 24) (ms_ 30 2) rfl rfl (one_of HT_.out (by kernel_rfl)) (by decide) (fun K hK => ?_)
  refine goes_ Try.func8 (by kernel_rfl) rfl #[.agg #[.slice A0_0 l0_0.length c0_0, .slice A0_1 l0_1.length c0_1]] (by rfl) rfl rfl (by simp only [List.map_toArray, List.map_cons, List.map_nil]; rfl) ?_
  with_reducible refine (few_L (VH.out.below CH.out.tail.head)).mono ?_
  rintro e wx ⟨rfl, hb⟩
  refine ⟨_, rfl, ?_⟩
  replace CH := Lib.hid (CH.out.step hb)
  clear hb
  refine hK.out _ _ ⟨((box_cell BK5.out CH.out.head 0).trans rfl), ((box_cell BK5.out CH.out.head 1).trans rfl), ((box_cell BK6.out CH.out.head 0).trans rfl), ((box_cell BK6.out CH.out.head 1).trans rfl)⟩ (fun hHeld => ?_)
  clear hK K
  refine norm_ (a' := ?_) ?_ ?_
  rotate_left
  · show Act.put _ (some 24) _ = _
    simp only [Act.put, List.setIfInBounds_toArray, List.set_cons_zero, List.set_cons_succ, i64_w, i32_w]
    rfl
  refine pure_ (i := 2) (N := some 25) (v := ?_) (a' := ?_) (ms_ 30 3) rfl rfl (any_of HT_.out (by kernel_rfl)) (fun _ _ _ h => h) (Or.inl ⟨by rfl, ?_⟩) ?_ ?_
  rotate_left
  · intro w'
    go_simp
    with_reducible rfl
  rotate_left
  · simp only [Act.put, List.setIfInBounds_toArray, List.set_cons_zero, List.set_cons_succ, i64_w, i32_w]
    rfl
  refine pure_ (i := 3) (N := some 26) (v := ?_) (a' := ?_) (ms_ 30 4) rfl rfl (any_of HT_.out (by kernel_rfl)) (fun _ _ _ h => h) (Or.inl ⟨by rfl, ?_⟩) ?_ ?_
  rotate_left
  · intro w'
    go_simp
    with_reducible rfl
  rotate_left
  · simp only [Act.put, List.setIfInBounds_toArray, List.set_cons_zero, List.set_cons_succ, i64_w, i32_w]
    rfl
  refine take_ (i := 4) (N := some 27) (v := ?_) (a' := ?_) (ms_ 30 5) rfl rfl (take_ofW HT_.out HW_.out (by kernel_rfl)) (fun _ _ _ h => h) (Or.inl ⟨by rfl, ?_⟩) hHeld ?_ ?_
  rotate_left
  · rintro w' ⟨s0, s1, s2, s3⟩
    go_simp
    with_reducible rfl
  rotate_left
  · simp only [Act.put, List.setIfInBounds_toArray, List.set_cons_zero, List.set_cons_succ, i64_w, i32_w]
    rfl
  refine one_ (i := 5) (N := some 28) (ms_ 30 6) rfl rfl (one_of HT_.out (by kernel_rfl)) (by decide) (fun K hK => ?_)
  refine goes_ Try.func8 (by kernel_rfl) rfl #[.agg #[.slice A1_0 l1_0.length c1_0, .slice A1_1 l1_1.length c1_1]] (by rfl) rfl rfl (by simp only [List.map_toArray, List.map_cons, List.map_nil]; rfl) ?_
  with_reducible refine (few_L (VG.out.below CH.out.tail.head)).mono ?_
  rintro e wx ⟨rfl, hb⟩
  refine ⟨_, rfl, ?_⟩
  replace CH := Lib.hid (CH.out.step hb)
  clear hb
  refine hK.out _ _ ⟨((box_cell BK5.out CH.out.head 0).trans rfl), ((box_cell BK5.out CH.out.head 1).trans rfl), ((box_cell BK6.out CH.out.head 0).trans rfl), ((box_cell BK6.out CH.out.head 1).trans rfl)⟩ (fun hHeld => ?_)
  clear hK K
  refine norm_ (a' := ?_) ?_ ?_
  rotate_left
  · show Act.put _ (some 28) _ = _
    simp only [Act.put, List.setIfInBounds_toArray, List.set_cons_zero, List.set_cons_succ, i64_w, i32_w]
    rfl
  refine pure_ (i := 6) (N := some 29) (v := ?_) (a' := ?_) (ms_ 30 7) rfl rfl (any_of HT_.out (by kernel_rfl)) (fun _ _ _ h => h) (Or.inl ⟨by rfl, ?_⟩) ?_ ?_
  rotate_left
  · intro w'
    go_simp
    with_reducible rfl
  rotate_left
  · simp only [Act.put, List.setIfInBounds_toArray, List.set_cons_zero, List.set_cons_succ, i64_w, i32_w]
    rfl
  refine pure_ (i := 7) (N := some 30) (v := ?_) (a' := ?_) (ms_ 30 8) rfl rfl (any_of HT_.out (by kernel_rfl)) (fun _ _ _ h => h) (Or.inl ⟨by rfl, ?_⟩) ?_ ?_
  rotate_left
  · intro w'
    go_simp
    with_reducible rfl
  rotate_left
  · simp only [Act.put, List.setIfInBounds_toArray, List.set_cons_zero, List.set_cons_succ, i64_w, i32_w]
    rfl
  refine pure_ (i := 8) (N := some 31) (v := ?_) (a' := ?_) (ms_ 30 9) rfl rfl (any_of HT_.out (by kernel_rfl)) (fun _ _ _ h => h) (Or.inl ⟨by rfl, ?_⟩) ?_ ?_
  rotate_left
  · intro w'
    go_simp
    with_reducible rfl
  rotate_left
  · simp only [Act.put, List.setIfInBounds_toArray, List.set_cons_zero, List.set_cons_succ, i64_w, i32_w]
    rfl
  refine take_ (i := 9) (N := some 32) (v := ?_) (a' := ?_) (ms_ 30 10) rfl rfl (take_ofW HT_.out HW_.out (by kernel_rfl)) (fun _ _ _ h => h) (Or.inl ⟨by rfl, ?_⟩) hHeld ?_ ?_
  rotate_left
  · rintro w' ⟨s0, s1, s2, s3⟩
    go_simp
    with_reducible rfl
  rotate_left
  · simp only [Act.put, List.setIfInBounds_toArray, List.set_cons_zero, List.set_cons_succ, i64_w, i32_w]
    rfl
  refine take_ (i := 11) (N := some 34) (v := ?_) (a' := ?_) #[true, true, true, true, true, true, true, true, true, true, false, true, false, false, false, false, false, false, false, false, false, false, false, false, false, false, false, false, false, false] rfl rfl (take_ofW HT_.out HW_.out (by kernel_rfl)) (fun _ _ _ h => h) (Or.inl ⟨by rfl, ?_⟩) hHeld ?_ ?_
  rotate_left
  · rintro w' ⟨s0, s1, s2, s3⟩
    go_simp
    with_reducible rfl
  rotate_left
  · simp only [Act.put, List.setIfInBounds_toArray, List.set_cons_zero, List.set_cons_succ, i64_w, i32_w]
    rfl
  refine one_ (i := 10) (N := some 33) (ms_ 30 12) rfl rfl (one_of HT_.out (by kernel_rfl)) (by decide) (fun K hK => ?_)
  refine goes_ Try.func21 (by kernel_rfl) rfl #[.agg #[.slice A0_0 l0_0.length c0_0, .slice A0_1 l0_1.length c0_1]] (by rfl) rfl rfl (by simp only [List.map_toArray, List.map_cons, List.map_nil]; rfl) ?_
  with_reducible refine (hFitR_L (VH.out.below CH.out.tail.head) HL.out WF.out.1 WF.out.2).mono ?_
  rintro e wx ⟨rfl, hb⟩
  refine ⟨_, rfl, ?_⟩
  replace CH := Lib.hid (CH.out.step hb)
  clear hb
  refine hK.out _ _ ⟨((box_cell BK5.out CH.out.head 0).trans rfl), ((box_cell BK5.out CH.out.head 1).trans rfl), ((box_cell BK6.out CH.out.head 0).trans rfl), ((box_cell BK6.out CH.out.head 1).trans rfl)⟩ (fun hHeld => ?_)
  clear hK K
  refine norm_ (a' := ?_) ?_ ?_
  rotate_left
  · show Act.put _ (some 33) _ = _
    simp only [Act.put, List.setIfInBounds_toArray, List.set_cons_zero, List.set_cons_succ, i64_w, i32_w]
    rfl
  refine one_ (i := 12) (N := some 35) (ms_ 30 13) rfl rfl (one_of HT_.out (by kernel_rfl)) (by decide) (fun K hK => ?_)
  refine goes_ Try.func9 (by kernel_rfl) rfl #[.agg #[.slice A0_0 l0_0.length c0_0, .slice A0_1 l0_1.length c0_1]] (by rfl) rfl rfl (by simp only [List.map_toArray, List.map_cons, List.map_nil]; rfl) ?_
  with_reducible refine (rFit_L (VH.out.below CH.out.tail.head) HL.out).mono ?_
  rintro e wx ⟨rfl, hb⟩
  refine ⟨_, rfl, ?_⟩
  replace CH := Lib.hid (CH.out.step hb)
  clear hb
  refine hK.out _ _ ⟨((box_cell BK5.out CH.out.head 0).trans rfl), ((box_cell BK5.out CH.out.head 1).trans rfl), ((box_cell BK6.out CH.out.head 0).trans rfl), ((box_cell BK6.out CH.out.head 1).trans rfl)⟩ (fun hHeld => ?_)
  clear hK K
  refine norm_ (a' := ?_) ?_ ?_
  rotate_left
  · show Act.put _ (some 35) _ = _
    simp only [Act.put, List.setIfInBounds_toArray, List.set_cons_zero, List.set_cons_succ, i64_w, i32_w]
    rfl
  refine pure_ (i := 13) (N := some 36) (v := ?_) (a' := ?_) (ms_ 30 14) rfl rfl (any_of HT_.out (by kernel_rfl)) (fun _ _ _ h => h) (Or.inl ⟨by rfl, ?_⟩) ?_ ?_
  rotate_left
  · intro w'
    go_simp
    with_reducible rfl
  rotate_left
  · simp only [Act.put, List.setIfInBounds_toArray, List.set_cons_zero, List.set_cons_succ, i64_w, i32_w]
    rfl
  refine pure_ (i := 14) (N := some 37) (v := ?_) (a' := ?_) (ms_ 30 15) rfl rfl (any_of HT_.out (by kernel_rfl)) (fun _ _ _ h => h) (Or.inl ⟨by rfl, ?_⟩) ?_ ?_
  rotate_left
  · intro w'
    go_simp
    with_reducible rfl
  rotate_left
  · simp only [Act.put, List.setIfInBounds_toArray, List.set_cons_zero, List.set_cons_succ, i64_w, i32_w]
    rfl
  refine pure_ (i := 15) (N := some 38) (v := ?_) (a' := ?_) (ms_ 30 16) rfl rfl (any_of HT_.out (by kernel_rfl)) (fun _ _ _ h => h) (Or.inl ⟨by rfl, ?_⟩) ?_ ?_
  rotate_left
  · intro w'
    go_simp
    with_reducible rfl
  rotate_left
  · simp only [Act.put, List.setIfInBounds_toArray, List.set_cons_zero, List.set_cons_succ, i64_w, i32_w]
    rfl
  refine take_ (i := 16) (N := some 39) (v := ?_) (a' := ?_) (ms_ 30 17) rfl rfl (take_ofW HT_.out HW_.out (by kernel_rfl)) (fun _ _ _ h => h) (Or.inl ⟨by rfl, ?_⟩) hHeld ?_ ?_
  rotate_left
  · rintro w' ⟨s0, s1, s2, s3⟩
    go_simp
    with_reducible rfl
  rotate_left
  · simp only [Act.put, List.setIfInBounds_toArray, List.set_cons_zero, List.set_cons_succ, i64_w, i32_w]
    rfl
  refine take_ (i := 17) (N := some 40) (v := ?_) (a' := ?_) (ms_ 30 18) rfl rfl (take_ofW HT_.out HW_.out (by kernel_rfl)) (fun _ _ _ h => h) (Or.inl ⟨by rfl, ?_⟩) hHeld ?_ ?_
  rotate_left
  · rintro w' ⟨s0, s1, s2, s3⟩
    go_simp
    with_reducible rfl
  rotate_left
  · simp only [Act.put, List.setIfInBounds_toArray, List.set_cons_zero, List.set_cons_succ, i64_w, i32_w]
    rfl
  refine take_ (i := 19) (N := some 42) (v := ?_) (a' := ?_) #[true, true, true, true, true, true, true, true, true, true, true, true, true, true, true, true, true, true, false, true, false, false, false, false, false, false, false, false, false, false] rfl rfl (take_ofW HT_.out HW_.out (by kernel_rfl)) (fun _ _ _ h => h) (Or.inl ⟨by rfl, ?_⟩) hHeld ?_ ?_
  rotate_left
  · rintro w' ⟨s0, s1, s2, s3⟩
    go_simp
    with_reducible rfl
  rotate_left
  · simp only [Act.put, List.setIfInBounds_toArray, List.set_cons_zero, List.set_cons_succ, i64_w, i32_w]
    rfl
  refine take_ (i := 20) (N := some 43) (v := ?_) (a' := ?_) #[true, true, true, true, true, true, true, true, true, true, true, true, true, true, true, true, true, true, false, true, true, false, false, false, false, false, false, false, false, false] rfl rfl (take_ofW HT_.out HW_.out (by kernel_rfl)) (fun _ _ _ h => h) (Or.inl ⟨by rfl, ?_⟩) hHeld ?_ ?_
  rotate_left
  · rintro w' ⟨s0, s1, s2, s3⟩
    go_simp
    with_reducible rfl
  rotate_left
  · simp only [Act.put, List.setIfInBounds_toArray, List.set_cons_zero, List.set_cons_succ, i64_w, i32_w]
    rfl
  refine one_ (i := 18) (N := some 41) (ms_ 30 21) rfl rfl (one_of HT_.out (by kernel_rfl)) (by decide) (fun K hK => ?_)
  refine goes_ Try.func22 (by kernel_rfl) rfl #[.agg #[.slice A0_0 l0_0.length c0_0, .slice A0_1 l0_1.length c0_1], .agg #[.slice A1_0 l1_0.length c1_0, .slice A1_1 l1_1.length c1_1]] (by rfl) rfl rfl (by simp only [List.map_toArray, List.map_cons, List.map_nil]; rfl) ?_
  with_reducible refine (hSame_L (VH.out.below CH.out.tail.head) (VG.out.below CH.out.tail.head) HL.out).mono ?_
  rintro e wx ⟨rfl, hb⟩
  refine ⟨_, rfl, ?_⟩
  replace CH := Lib.hid (CH.out.step hb)
  clear hb
  refine hK.out _ _ ⟨((box_cell BK5.out CH.out.head 0).trans rfl), ((box_cell BK5.out CH.out.head 1).trans rfl), ((box_cell BK6.out CH.out.head 0).trans rfl), ((box_cell BK6.out CH.out.head 1).trans rfl)⟩ (fun hHeld => ?_)
  clear hK K
  refine norm_ (a' := ?_) ?_ ?_
  rotate_left
  · show Act.put _ (some 41) _ = _
    simp only [Act.put, List.setIfInBounds_toArray, List.set_cons_zero, List.set_cons_succ, i64_w, i32_w]
    rfl
  refine one_ (i := 21) (N := some 44) (ms_ 30 22) rfl rfl (one_of HT_.out (by kernel_rfl)) (by decide) (fun K hK => ?_)
  refine goes_ Try.func12 (by kernel_rfl) rfl #[.agg #[.slice A0_0 l0_0.length c0_0, .slice A0_1 l0_1.length c0_1], .agg #[.slice A1_0 l1_0.length c1_0, .slice A1_1 l1_1.length c1_1]] (by rfl) rfl rfl (by simp only [List.map_toArray, List.map_cons, List.map_nil]; rfl) ?_
  with_reducible refine (rSame_L (VH.out.below CH.out.tail.head) (VG.out.below CH.out.tail.head) HL.out).mono ?_
  rintro e wx ⟨rfl, hb⟩
  refine ⟨_, rfl, ?_⟩
  replace CH := Lib.hid (CH.out.step hb)
  clear hb
  refine hK.out _ _ ⟨((box_cell BK5.out CH.out.head 0).trans rfl), ((box_cell BK5.out CH.out.head 1).trans rfl), ((box_cell BK6.out CH.out.head 0).trans rfl), ((box_cell BK6.out CH.out.head 1).trans rfl)⟩ (fun hHeld => ?_)
  clear hK K
  refine norm_ (a' := ?_) ?_ ?_
  rotate_left
  · show Act.put _ (some 44) _ = _
    simp only [Act.put, List.setIfInBounds_toArray, List.set_cons_zero, List.set_cons_succ, i64_w, i32_w]
    rfl
  refine pure_ (i := 22) (N := some 45) (v := ?_) (a' := ?_) (ms_ 30 23) rfl rfl (any_of HT_.out (by kernel_rfl)) (fun _ _ _ h => h) (Or.inl ⟨by rfl, ?_⟩) ?_ ?_
  rotate_left
  · intro w'
    go_simp
    with_reducible rfl
  rotate_left
  · simp only [Act.put, List.setIfInBounds_toArray, List.set_cons_zero, List.set_cons_succ, i64_w, i32_w]
    rfl
  refine pure_ (i := 23) (N := some 46) (v := ?_) (a' := ?_) (ms_ 30 24) rfl rfl (any_of HT_.out (by kernel_rfl)) (fun _ _ _ h => h) (Or.inl ⟨by rfl, ?_⟩) ?_ ?_
  rotate_left
  · intro w'
    go_simp
    with_reducible rfl
  rotate_left
  · simp only [Act.put, List.setIfInBounds_toArray, List.set_cons_zero, List.set_cons_succ, i64_w, i32_w]
    rfl
  refine pure_ (i := 24) (N := some 47) (v := ?_) (a' := ?_) (ms_ 30 25) rfl rfl (any_of HT_.out (by kernel_rfl)) (fun _ _ _ h => h) (Or.inl ⟨by rfl, ?_⟩) ?_ ?_
  rotate_left
  · intro w'
    go_simp
    with_reducible rfl
  rotate_left
  · simp only [Act.put, List.setIfInBounds_toArray, List.set_cons_zero, List.set_cons_succ, i64_w, i32_w]
    rfl
  refine take_ (i := 25) (N := some 48) (v := ?_) (a' := ?_) (ms_ 30 26) rfl rfl (take_ofW HT_.out HW_.out (by kernel_rfl)) (fun _ _ _ h => h) (Or.inl ⟨by rfl, ?_⟩) hHeld ?_ ?_
  rotate_left
  · rintro w' ⟨s0, s1, s2, s3⟩
    go_simp
    with_reducible rfl
  rotate_left
  · simp only [Act.put, List.setIfInBounds_toArray, List.set_cons_zero, List.set_cons_succ, i64_w, i32_w]
    rfl
  refine take_ (i := 26) (N := some 49) (v := ?_) (a' := ?_) (ms_ 30 27) rfl rfl (take_ofW HT_.out HW_.out (by kernel_rfl)) (fun _ _ _ h => h) (Or.inl ⟨by rfl, ?_⟩) hHeld ?_ ?_
  rotate_left
  · rintro w' ⟨s0, s1, s2, s3⟩
    go_simp
    with_reducible rfl
  rotate_left
  · simp only [Act.put, List.setIfInBounds_toArray, List.set_cons_zero, List.set_cons_succ, i64_w, i32_w]
    rfl
  refine one_ (i := 27) (N := some 50) (ms_ 30 28) rfl rfl (one_of HT_.out (by kernel_rfl)) (by decide) (fun K hK => ?_)
  refine goes_ Try.func22 (by kernel_rfl) rfl #[.agg #[.slice A0_0 l0_0.length c0_0, .slice A0_1 l0_1.length c0_1], .agg #[.slice A0_0 l0_0.length c0_0, .slice A0_1 l0_1.length c0_1]] (by rfl) rfl rfl (by simp only [List.map_toArray, List.map_cons, List.map_nil]; rfl) ?_
  with_reducible refine (hSameT_L (VH.out.below CH.out.tail.head) (VH.out.below CH.out.tail.head) HL.out).mono ?_
  rintro e wx ⟨rfl, hb⟩
  refine ⟨_, rfl, ?_⟩
  replace CH := Lib.hid (CH.out.step hb)
  clear hb
  refine hK.out _ _ ⟨((box_cell BK5.out CH.out.head 0).trans rfl), ((box_cell BK5.out CH.out.head 1).trans rfl), ((box_cell BK6.out CH.out.head 0).trans rfl), ((box_cell BK6.out CH.out.head 1).trans rfl)⟩ (fun hHeld => ?_)
  clear hK K
  refine norm_ (a' := ?_) ?_ ?_
  rotate_left
  · show Act.put _ (some 50) _ = _
    simp only [Act.put, List.setIfInBounds_toArray, List.set_cons_zero, List.set_cons_succ, i64_w, i32_w]
    rfl
  refine pure_ (i := 28) (N := some 51) (v := ?_) (a' := ?_) (ms_ 30 29) rfl rfl (any_of HT_.out (by kernel_rfl)) (fun _ _ _ h => h) (Or.inl ⟨by rfl, ?_⟩) ?_ ?_
  rotate_left
  · intro w'
    go_simp
    with_reducible rfl
  rotate_left
  · simp only [Act.put, List.setIfInBounds_toArray, List.set_cons_zero, List.set_cons_succ, i64_w, i32_w]
    rfl
  refine pure_ (i := 29) (N := some 52) (v := ?_) (a' := ?_) (ms_ 30 30) rfl rfl (any_of HT_.out (by kernel_rfl)) (fun _ _ _ h => h) (Or.inl ⟨by rfl, ?_⟩) ?_ ?_
  rotate_left
  · intro w'
    go_simp
    with_reducible rfl
  rotate_left
  · simp only [Act.put, List.setIfInBounds_toArray, List.set_cons_zero, List.set_cons_succ, i64_w, i32_w]
    rfl
  refine done_ (done_of HT_.out (by kernel_rfl)) ?_
  have q5_0 := (box_cell BK5.out CH.out.head 0).trans rfl
  have q5_1 := (box_cell BK5.out CH.out.head 1).trans rfl
  cases hfit : fitR l0_0 l0_1
  · skip
    go_wp2_with (first | (go_at_call 9; (with_reducible refine (rFit_L (VH.out.below CH.out.tail.head) HL.out).mono ?_); rintro e wx ⟨rfl, hb⟩; replace CH := Lib.hid (CH.out.step hb); clear hb) | (go_at_call 10; (with_reducible refine awake_L.mono ?_); rintro e wx ⟨rfl, hb⟩; replace CH := Lib.hid (CH.out.step hb); clear hb))
    go_ret
    exact ⟨rfl, CH.out.tail.head⟩
  have HF := Lib.hid ((fitR_iff WF.out.1 WF.out.2).1 hfit)
  go_upto_region 5 with (go_at_call 9; (with_reducible refine (rFit_L (VH.out.below CH.out.tail.head) HL.out).mono ?_); rintro e wx ⟨rfl, hb⟩; replace CH := Lib.hid (CH.out.step hb); clear hb)
  obtain ⟨rm1, rm2, rm3, erm⟩ : ∃ x y z, mapS l0_0 l0_1 a2 a3 a4 = (x, y, z) := ⟨_, _, _, rfl⟩
  have Fm := Lib.hid (show FitH rm1 rm2 by have := HF.out.map (n := a3) (p := a4) X2.out.1; rw [erm] at this; exact this)
  have Em := Lib.hid erm
  clear erm
  obtain ⟨ru1, ru2, ru3, eru⟩ : ∃ x y z, unmapS l0_0 l0_1 a2 a3 = (x, y, z) := ⟨_, _, _, rfl⟩
  have Fu := Lib.hid (show FitH ru1 ru2 by have := HF.out.unmap a2 a3; rw [eru] at this; exact this)
  have Eu := Lib.hid eru
  clear eru
  obtain ⟨rp1, rp2, rp3, erp⟩ : ∃ x y z, protS l0_0 l0_1 a2 a3 a4 = (x, y, z) := ⟨_, _, _, rfl⟩
  have Fp := Lib.hid (show FitH rp1 rp2 by have := HF.out.protect (n := a3) (p := a4) X2.out.1; rw [erp] at this; exact this)
  have Ep := Lib.hid erp
  clear erp
  have q5_0 := (box_cell BK5.out CH.out.head 0).trans rfl
  have q5_1 := (box_cell BK5.out CH.out.head 1).trans rfl
  go_upto_region 6 with (go_at_call 15; (with_reducible refine (hMap_L (VH.out.below CH.out.tail.head) HF.out X2.out.1 X2.out.2 X3.out.1 X4.out.1 X4.out.2 Em.out).mono ?_); rintro e wxm ⟨Am, cm, Bm, dm, rfl, hv, hb⟩)
  replace CH := Lib.hid ((CH.out.step hb).alloc (.cells #[.slice Am rm1.length cm, .slice Bm rm2.length dm] 25))
  have BK11 := Lib.hid (blk_new wxm (.cells #[.slice Am rm1.length cm, .slice Bm rm2.length dm] 25))
  have Vm := Lib.hid (HostV.below hv (below_new wxm (.cells #[.slice Am rm1.length cm, .slice Bm rm2.length dm] 25)))
  generalize wxm.alloc (.cells #[.slice Am rm1.length cm, .slice Bm rm2.length dm] 25) = y2 at CH BK11 Vm ⊢
  replace CH := Lib.hid CH.out.push
  clear hv hb
  have q5_0 := (box_cell BK5.out CH.out.tail.head 0).trans rfl
  have q5_1 := (box_cell BK5.out CH.out.tail.head 1).trans rfl
  go_upto_region 7 with (go_at_call 23; (with_reducible refine (rMap_L (VH.out.below CH.out.tail.tail.head) HF.out X2.out.1 X2.out.2 X3.out.1 Em.out).mono ?_); rintro e wxm' ⟨Am', cm', Bm', dm', rfl, hv, hb⟩)
  replace CH := Lib.hid ((CH.out.step hb).alloc (.cells #[.slice Am' rm1.length cm', .slice Bm' rm2.length dm'] 25))
  have BK13 := Lib.hid (blk_new wxm' (.cells #[.slice Am' rm1.length cm', .slice Bm' rm2.length dm'] 25))
  have Vm' := Lib.hid (HostV.below hv (below_new wxm' (.cells #[.slice Am' rm1.length cm', .slice Bm' rm2.length dm'] 25)))
  generalize wxm'.alloc (.cells #[.slice Am' rm1.length cm', .slice Bm' rm2.length dm'] 25) = y3 at CH BK13 Vm' ⊢
  replace CH := Lib.hid CH.out.push
  clear hv hb
  have q5_0 := (box_cell BK5.out CH.out.tail.tail.head 0).trans rfl
  have q5_1 := (box_cell BK5.out CH.out.tail.tail.head 1).trans rfl
  go_upto_region 8 with (go_at_call 14; (with_reducible refine (hUnmap_L (VH.out.below CH.out.tail.tail.tail.head) HF.out X2.out.1 X2.out.2 X3.out.1 Eu.out).mono ?_); rintro e wxu ⟨Au, cu, Bu, du, rfl, hv, hb⟩)
  replace CH := Lib.hid ((CH.out.step hb).alloc (.cells #[.slice Au ru1.length cu, .slice Bu ru2.length du] 25))
  have BK15 := Lib.hid (blk_new wxu (.cells #[.slice Au ru1.length cu, .slice Bu ru2.length du] 25))
  have Vu := Lib.hid (HostV.below hv (below_new wxu (.cells #[.slice Au ru1.length cu, .slice Bu ru2.length du] 25)))
  generalize wxu.alloc (.cells #[.slice Au ru1.length cu, .slice Bu ru2.length du] 25) = y4 at CH BK15 Vu ⊢
  replace CH := Lib.hid CH.out.push
  clear hv hb
  have q5_0 := (box_cell BK5.out CH.out.tail.tail.tail.head 0).trans rfl
  have q5_1 := (box_cell BK5.out CH.out.tail.tail.tail.head 1).trans rfl
  go_upto_region 9 with (go_at_call 24; (with_reducible refine (rUnmap_L (VH.out.below CH.out.tail.tail.tail.tail.head) HF.out X2.out.1 X2.out.2 X3.out.1 Eu.out).mono ?_); rintro e wxu' ⟨Au', cu', Bu', du', rfl, hv, hb⟩)
  replace CH := Lib.hid ((CH.out.step hb).alloc (.cells #[.slice Au' ru1.length cu', .slice Bu' ru2.length du'] 25))
  have BK17 := Lib.hid (blk_new wxu' (.cells #[.slice Au' ru1.length cu', .slice Bu' ru2.length du'] 25))
  have Vu' := Lib.hid (HostV.below hv (below_new wxu' (.cells #[.slice Au' ru1.length cu', .slice Bu' ru2.length du'] 25)))
  generalize wxu'.alloc (.cells #[.slice Au' ru1.length cu', .slice Bu' ru2.length du'] 25) = y5 at CH BK17 Vu' ⊢
  replace CH := Lib.hid CH.out.push
  clear hv hb
  have q5_0 := (box_cell BK5.out CH.out.tail.tail.tail.tail.head 0).trans rfl
  have q5_1 := (box_cell BK5.out CH.out.tail.tail.tail.tail.head 1).trans rfl
  go_upto_region 10 with (go_at_call 25; (with_reducible refine (hProtect_L (VH.out.below CH.out.tail.tail.tail.tail.tail.head) HF.out X2.out.1 X2.out.2 X3.out.1 X3.out.2 X4.out.1 X4.out.2 Ep.out).mono ?_); rintro e wxp ⟨Ap, cp, Bp, dp, rfl, hv, hb⟩)
  replace CH := Lib.hid ((CH.out.step hb).alloc (.cells #[.slice Ap rp1.length cp, .slice Bp rp2.length dp] 25))
  have BK19 := Lib.hid (blk_new wxp (.cells #[.slice Ap rp1.length cp, .slice Bp rp2.length dp] 25))
  have Vp := Lib.hid (HostV.below hv (below_new wxp (.cells #[.slice Ap rp1.length cp, .slice Bp rp2.length dp] 25)))
  generalize wxp.alloc (.cells #[.slice Ap rp1.length cp, .slice Bp rp2.length dp] 25) = y6 at CH BK19 Vp ⊢
  replace CH := Lib.hid CH.out.push
  clear hv hb
  have q5_0 := (box_cell BK5.out CH.out.tail.tail.tail.tail.tail.head 0).trans rfl
  have q5_1 := (box_cell BK5.out CH.out.tail.tail.tail.tail.tail.head 1).trans rfl
  go_upto_region 11 with (go_at_call 26; (with_reducible refine (rProtect_L (VH.out.below CH.out.tail.tail.tail.tail.tail.tail.head) HF.out X2.out.1 X2.out.2 X3.out.1 Ep.out).mono ?_); rintro e wxp' ⟨Ap', cp', Bp', dp', rfl, hv, hb⟩)
  replace CH := Lib.hid ((CH.out.step hb).alloc (.cells #[.slice Ap' rp1.length cp', .slice Bp' rp2.length dp'] 25))
  have BK21 := Lib.hid (blk_new wxp' (.cells #[.slice Ap' rp1.length cp', .slice Bp' rp2.length dp'] 25))
  have Vp' := Lib.hid (HostV.below hv (below_new wxp' (.cells #[.slice Ap' rp1.length cp', .slice Bp' rp2.length dp'] 25)))
  generalize wxp'.alloc (.cells #[.slice Ap' rp1.length cp', .slice Bp' rp2.length dp'] 25) = y7 at CH BK21 Vp' ⊢
  replace CH := Lib.hid CH.out.push
  clear hv hb
  have q11_0 := (box_cell BK11.out CH.out.tail.tail.tail.tail.tail.head 0).trans rfl
  have q11_1 := (box_cell BK11.out CH.out.tail.tail.tail.tail.tail.head 1).trans rfl
  have q13_0 := (box_cell BK13.out CH.out.tail.tail.tail.tail.head 0).trans rfl
  have q13_1 := (box_cell BK13.out CH.out.tail.tail.tail.tail.head 1).trans rfl
  have q15_0 := (box_cell BK15.out CH.out.tail.tail.tail.head 0).trans rfl
  have q15_1 := (box_cell BK15.out CH.out.tail.tail.tail.head 1).trans rfl
  have q17_0 := (box_cell BK17.out CH.out.tail.tail.head 0).trans rfl
  have q17_1 := (box_cell BK17.out CH.out.tail.tail.head 1).trans rfl
  have q19_0 := (box_cell BK19.out CH.out.tail.head 0).trans rfl
  have q19_1 := (box_cell BK19.out CH.out.tail.head 1).trans rfl
  have q21_0 := (box_cell BK21.out CH.out.head 0).trans rfl
  have q21_1 := (box_cell BK21.out CH.out.head 1).trans rfl
  go_wp2_with (first | (go_at_call 12; (with_reducible refine (rSameT_L (Vm.out.below CH.out.tail.tail.tail.tail.tail.head) (Vm'.out.below CH.out.tail.tail.tail.tail.head) Fm.out).mono ?_); rintro e wx ⟨rfl, hb⟩; replace CH := Lib.hid (CH.out.step hb); clear hb; have q11_0 := (box_cell BK11.out CH.out.tail.tail.tail.tail.tail.head 0).trans rfl; have q11_1 := (box_cell BK11.out CH.out.tail.tail.tail.tail.tail.head 1).trans rfl; have q13_0 := (box_cell BK13.out CH.out.tail.tail.tail.tail.head 0).trans rfl; have q13_1 := (box_cell BK13.out CH.out.tail.tail.tail.tail.head 1).trans rfl; have q15_0 := (box_cell BK15.out CH.out.tail.tail.tail.head 0).trans rfl; have q15_1 := (box_cell BK15.out CH.out.tail.tail.tail.head 1).trans rfl; have q17_0 := (box_cell BK17.out CH.out.tail.tail.head 0).trans rfl; have q17_1 := (box_cell BK17.out CH.out.tail.tail.head 1).trans rfl; have q19_0 := (box_cell BK19.out CH.out.tail.head 0).trans rfl; have q19_1 := (box_cell BK19.out CH.out.tail.head 1).trans rfl; have q21_0 := (box_cell BK21.out CH.out.head 0).trans rfl; have q21_1 := (box_cell BK21.out CH.out.head 1).trans rfl) | (go_at_call 12; (with_reducible refine (rSameT_L (Vu.out.below CH.out.tail.tail.tail.head) (Vu'.out.below CH.out.tail.tail.head) Fu.out).mono ?_); rintro e wx ⟨rfl, hb⟩; replace CH := Lib.hid (CH.out.step hb); clear hb; have q11_0 := (box_cell BK11.out CH.out.tail.tail.tail.tail.tail.head 0).trans rfl; have q11_1 := (box_cell BK11.out CH.out.tail.tail.tail.tail.tail.head 1).trans rfl; have q13_0 := (box_cell BK13.out CH.out.tail.tail.tail.tail.head 0).trans rfl; have q13_1 := (box_cell BK13.out CH.out.tail.tail.tail.tail.head 1).trans rfl; have q15_0 := (box_cell BK15.out CH.out.tail.tail.tail.head 0).trans rfl; have q15_1 := (box_cell BK15.out CH.out.tail.tail.tail.head 1).trans rfl; have q17_0 := (box_cell BK17.out CH.out.tail.tail.head 0).trans rfl; have q17_1 := (box_cell BK17.out CH.out.tail.tail.head 1).trans rfl; have q19_0 := (box_cell BK19.out CH.out.tail.head 0).trans rfl; have q19_1 := (box_cell BK19.out CH.out.tail.head 1).trans rfl; have q21_0 := (box_cell BK21.out CH.out.head 0).trans rfl; have q21_1 := (box_cell BK21.out CH.out.head 1).trans rfl) | (go_at_call 12; (with_reducible refine (rSameT_L (Vp.out.below CH.out.tail.head) (Vp'.out.below CH.out.head) Fp.out).mono ?_); rintro e wx ⟨rfl, hb⟩; replace CH := Lib.hid (CH.out.step hb); clear hb; have q11_0 := (box_cell BK11.out CH.out.tail.tail.tail.tail.tail.head 0).trans rfl; have q11_1 := (box_cell BK11.out CH.out.tail.tail.tail.tail.tail.head 1).trans rfl; have q13_0 := (box_cell BK13.out CH.out.tail.tail.tail.tail.head 0).trans rfl; have q13_1 := (box_cell BK13.out CH.out.tail.tail.tail.tail.head 1).trans rfl; have q15_0 := (box_cell BK15.out CH.out.tail.tail.tail.head 0).trans rfl; have q15_1 := (box_cell BK15.out CH.out.tail.tail.tail.head 1).trans rfl; have q17_0 := (box_cell BK17.out CH.out.tail.tail.head 0).trans rfl; have q17_1 := (box_cell BK17.out CH.out.tail.tail.head 1).trans rfl; have q19_0 := (box_cell BK19.out CH.out.tail.head 0).trans rfl; have q19_1 := (box_cell BK19.out CH.out.tail.head 1).trans rfl; have q21_0 := (box_cell BK21.out CH.out.head 0).trans rfl; have q21_1 := (box_cell BK21.out CH.out.head 1).trans rfl) | (go_at_call 9; (with_reducible refine (rFitT_L (Vm.out.below CH.out.tail.tail.tail.tail.tail.head) Fm.out).mono ?_); rintro e wx ⟨rfl, hb⟩; replace CH := Lib.hid (CH.out.step hb); clear hb; have q11_0 := (box_cell BK11.out CH.out.tail.tail.tail.tail.tail.head 0).trans rfl; have q11_1 := (box_cell BK11.out CH.out.tail.tail.tail.tail.tail.head 1).trans rfl; have q13_0 := (box_cell BK13.out CH.out.tail.tail.tail.tail.head 0).trans rfl; have q13_1 := (box_cell BK13.out CH.out.tail.tail.tail.tail.head 1).trans rfl; have q15_0 := (box_cell BK15.out CH.out.tail.tail.tail.head 0).trans rfl; have q15_1 := (box_cell BK15.out CH.out.tail.tail.tail.head 1).trans rfl; have q17_0 := (box_cell BK17.out CH.out.tail.tail.head 0).trans rfl; have q17_1 := (box_cell BK17.out CH.out.tail.tail.head 1).trans rfl; have q19_0 := (box_cell BK19.out CH.out.tail.head 0).trans rfl; have q19_1 := (box_cell BK19.out CH.out.tail.head 1).trans rfl; have q21_0 := (box_cell BK21.out CH.out.head 0).trans rfl; have q21_1 := (box_cell BK21.out CH.out.head 1).trans rfl) | (go_at_call 9; (with_reducible refine (rFitT_L (Vu.out.below CH.out.tail.tail.tail.head) Fu.out).mono ?_); rintro e wx ⟨rfl, hb⟩; replace CH := Lib.hid (CH.out.step hb); clear hb; have q11_0 := (box_cell BK11.out CH.out.tail.tail.tail.tail.tail.head 0).trans rfl; have q11_1 := (box_cell BK11.out CH.out.tail.tail.tail.tail.tail.head 1).trans rfl; have q13_0 := (box_cell BK13.out CH.out.tail.tail.tail.tail.head 0).trans rfl; have q13_1 := (box_cell BK13.out CH.out.tail.tail.tail.tail.head 1).trans rfl; have q15_0 := (box_cell BK15.out CH.out.tail.tail.tail.head 0).trans rfl; have q15_1 := (box_cell BK15.out CH.out.tail.tail.tail.head 1).trans rfl; have q17_0 := (box_cell BK17.out CH.out.tail.tail.head 0).trans rfl; have q17_1 := (box_cell BK17.out CH.out.tail.tail.head 1).trans rfl; have q19_0 := (box_cell BK19.out CH.out.tail.head 0).trans rfl; have q19_1 := (box_cell BK19.out CH.out.tail.head 1).trans rfl; have q21_0 := (box_cell BK21.out CH.out.head 0).trans rfl; have q21_1 := (box_cell BK21.out CH.out.head 1).trans rfl) | (go_at_call 9; (with_reducible refine (rFitT_L (Vp.out.below CH.out.tail.head) Fp.out).mono ?_); rintro e wx ⟨rfl, hb⟩; replace CH := Lib.hid (CH.out.step hb); clear hb; have q11_0 := (box_cell BK11.out CH.out.tail.tail.tail.tail.tail.head 0).trans rfl; have q11_1 := (box_cell BK11.out CH.out.tail.tail.tail.tail.tail.head 1).trans rfl; have q13_0 := (box_cell BK13.out CH.out.tail.tail.tail.tail.head 0).trans rfl; have q13_1 := (box_cell BK13.out CH.out.tail.tail.tail.tail.head 1).trans rfl; have q15_0 := (box_cell BK15.out CH.out.tail.tail.tail.head 0).trans rfl; have q15_1 := (box_cell BK15.out CH.out.tail.tail.tail.head 1).trans rfl; have q17_0 := (box_cell BK17.out CH.out.tail.tail.head 0).trans rfl; have q17_1 := (box_cell BK17.out CH.out.tail.tail.head 1).trans rfl; have q19_0 := (box_cell BK19.out CH.out.tail.head 0).trans rfl; have q19_1 := (box_cell BK19.out CH.out.tail.head 1).trans rfl; have q21_0 := (box_cell BK21.out CH.out.head 0).trans rfl; have q21_1 := (box_cell BK21.out CH.out.head 1).trans rfl) | (go_at_call 10; (with_reducible refine awake_L.mono ?_); rintro e wx ⟨rfl, hb⟩; replace CH := Lib.hid (CH.out.step hb); clear hb))
  go_ret
  exact ⟨rfl, CH.out.tail.tail.tail.tail.tail.tail.tail.head⟩
end Go.Proofs.Ytlmmipdgedfboaa.F
end
