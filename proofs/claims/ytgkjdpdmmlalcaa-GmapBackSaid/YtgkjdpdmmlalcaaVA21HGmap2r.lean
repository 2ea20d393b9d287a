import Derived.Test.YtgkjdpdmmlalcaaVZF0
import Derived.Test.YtgkjdpdmmlalcaaVA0
import Derived.Test.YtgkjdpdmmlalcaaVA4HHost3
import Derived.Test.YtgkjdpdmmlalcaaVA6HHost11
import Derived.Test.YtgkjdpdmmlalcaaVA9
import Derived.Test.YtgkjdpdmmlalcaaVA11
import Derived.Test.YtgkjdpdmmlalcaaVA13
import Derived.Test.YtgkjdpdmmlalcaaVA14HGuest4
import Derived.Test.YtgkjdpdmmlalcaaVA15
import Derived.Test.YtgkjdpdmmlalcaaVA16HGuest7
import Derived.Test.YtgkjdpdmmlalcaaVA17
import Derived.Test.YtgkjdpdmmlalcaaVA19
import Derived.Test.YtgkjdpdmmlalcaaVA20HGmap2w
section
namespace Go.Proofs.Ytgkjdpdmmlalcaa.F
open Go.RowKit Go.Shelf Go.Proofs.YtgkjdpdmmlalcaaW.PrintWords Go.Proofs.YtgkjdpdmmlalcaaW.PrintLast Go.Proofs.YtgkjdpdmmlalcaaW.PrintMore
set_option linter.unusedVariables false
set_option linter.unusedSimpArgs false
theorem drawn_below {w w' : World} (h : Drawn0 w w') : Below w.heap.size w w' := by
  obtain ⟨nd, rfl⟩ := h
  exact pw_below_drewN (Below.refl _ _) nd
def gRoom.T1 : Bool × List (List Nat × List Nat) := (true, [([], []), ([0], [0]), ([1], [1]), ([], []), ([3], [3]), ([4], [4]), ([], []), ([], []), ([6, 2, 5, 0, 1, 2, 6, 7], [2, 6]), ([7, 5, 8, 0, 1, 2, 3, 4, 5, 6, 7, 8], [5, 7])])
def gRoom.B1 : List Nat := [0, 1, 3, 0, 8, 24, 0, 0, 255, 511]
theorem gRoom.tab1 : rtab .any (opsOf Try.f101 1) = gRoom.T1 := by kernel_rfl
theorem gRoom.bits1 : waitsOk gRoom.T1.2 gRoom.B1 = true := by kernel_rfl
set_option maxHeartbeats 8000000 in
set_option maxRecDepth 100000 in
theorem gRoom.calls (A0 : Option Addr) (c0 : Nat) (l0 : List SM) (A1 : Option Addr) (c1 : Nat) (l1 : List SC) (b : Int) (A3 : Option Addr) (c3 : Nat) (p : List SP) (st en n h : Int) (w : World) (s0 : 0 ≤ st) (s1 : st < 4294967296) (hh : gmap_count.f en = some h) :
    Calls Try.prog 101 #[.agg #[.slice A0 l0.length c0, .slice A1 l1.length c1, .int .u64 b, .slice A3 p.length c3, .int .u32 st, .int .u32 en], .int .u32 n] w fun e w' => ∃ Bn Bs Bl Bh, e = .returned (.func (.func 138) #[] #[.pointer (some ⟨Bn, 0, none⟩), .pointer (some ⟨Bs, 0, none⟩), .pointer (some ⟨Bl, 0, none⟩), .pointer (some ⟨Bh, 0, none⟩)]) ∧ MInv w Bn Bs Bl Bh #[.slice A0 l0.length c0, .slice A1 l1.length c1, .int .u64 b, .slice A3 p.length c3, .int .u32 st, .int .u32 en] n (Int.tdiv st 4096) h w' := by
  have mixed : Try.prog.follows Departure.mixedOrders = true := by kernel_rfl
  have EH := Lib.hid hh
  have SS := Lib.hid (And.intro s0 s1)
  clear hh s0 s1
  have hu := Try.underlying63
  have hug := Try.underlying29
  have huh := Try.underlying25
  have CH := Lib.hid (show Chain [w] w from ⟨Below.refl _ _, trivial⟩)
  go_enter Try.func101, Try.ntmps101
  go_upto_region 1 with (fail)
  replace CH := Lib.hid ((CH.out.alloc (.cells #[.slice A0 l0.length c0, .slice A1 l1.length c1, .int .u64 b, .slice A3 p.length c3, .int .u32 st, .int .u32 en] 63)).alloc (.cells #[.int .u32 n] 30))
  have hq : IntKind.u32.wrap (Int.tdiv st 4096) = Int.tdiv st 4096 := by have := SS.out; rw [Int.tdiv_eq_ediv_of_nonneg this.1]; simp [IntKind.wrap, IntKind.bits, IntKind.signed]; omega
  have BK1 := Lib.hid (blk_alloc (blk_new w (.cells #[.slice A0 l0.length c0, .slice A1 l1.length c1, .int .u64 b, .slice A3 p.length c3, .int .u32 st, .int .u32 en] 63)) (.cells #[.int .u32 n] 30))
  have BK2 := Lib.hid (blk_new1 w (.cells #[.slice A0 l0.length c0, .slice A1 l1.length c1, .int .u64 b, .slice A3 p.length c3, .int .u32 st, .int .u32 en] 63) (.cells #[.int .u32 n] 30))
  have ZS := Lib.hid (show ((w.alloc (.cells #[.slice A0 l0.length c0, .slice A1 l1.length c1, .int .u64 b, .slice A3 p.length c3, .int .u32 st, .int .u32 en] 63)).alloc (.cells #[.int .u32 n] 30)).heap.size = w.heap.size + 2 by simp)
  generalize (w.alloc (.cells #[.slice A0 l0.length c0, .slice A1 l1.length c1, .int .u64 b, .slice A3 p.length c3, .int .u32 st, .int .u32 en] 63)).alloc (.cells #[.int .u32 n] 30) = y1 at CH BK1 BK2 ZS ⊢
  replace CH := Lib.hid CH.out.push
  replace CH := Lib.hid CH.out.drew
  have Sd : y1.heap.size ≤ y1.drew.heap.size := Nat.le_refl _
  refine start_ (n := 10) (S := fun w' => w'.cell? ⟨w.heap.size, 4, none⟩ = some (.int .u32 st) ∧ w'.cell? ⟨w.heap.size, 5, none⟩ = some (.int .u32 en)) (ds := []) (ms_ 10 0) (by kernel_rfl) rfl rfl ⟨((box_cell BK1.out CH.out.head 4).trans rfl), ((box_cell BK1.out CH.out.head 5).trans rfl)⟩ (fun hHeld => ?_)
  refine with_tabW gRoom.tab1 gRoom.bits1 (fun HT_ HW_ => ?_)
  generalize y1.drew = z0 at CH Sd hHeld ⊢
  refine pS_ 0 7 (mb_ 10 1) ?_
  refine pS_ 3 10 (mb_ 10 9) ?_
  refine t2S_ 1 8 (mb_ 10 11) ?_
  refine pS_ 2 9 (mb_ 10 15) ?_
  refine t2S_ 4 11 (mb_ 10 31) ?_
  refine join_ (σ := Nat × Nat) 2 (ms_ 10 8) (fun s => [(12, .int .u32 h), (5, .pointer (some ⟨s.1, 0, none⟩)), (6, .pointer (some ⟨s.2, 0, none⟩))]) (fun s w' => w'.heap[s.1]? = some (.cells #[.int .u32 0] 30 (0, 0)) ∧ w'.heap[s.2]? = some (.cells #[.int .u32 0] 30 (0, 0)) ∧ s.1 ≠ s.2 ∧ y1.heap.size ≤ s.1 ∧ y1.heap.size ≤ s.2 ∧ Chain [y1, w] w') ?_ ?_
  rotate_left
  · intro hCont
    refine three_ (i := 5) (j := 6) (k := 7) (Ni := some 12) (Nj := some 5) (Nk := some 6) (ms_ 10 6) (mb_ 10 95) (mb_ 10 159) rfl rfl rfl rfl rfl rfl (three_of HT_.out (by kernel_rfl)) (by decide) (by decide) (by decide) (fun K hK => ?_) (fun K hK => ?_) (fun K hK => ?_)
    · skip
      refine goes_ Try.func62 (by kernel_rfl) rfl #[.int .u32 en] (by rfl) rfl rfl (by simp only [List.map_toArray, List.map_cons, List.map_nil]; rfl) ?_
      with_reducible refine (gmap_count.calls en h _ EH.out).mono ?_
      rintro e z1 ⟨rfl, hd⟩
      refine ⟨_, rfl, ?_⟩
      have hb := drawn_below hd
      have S1 := hb.size
      clear hd
      replace CH := Lib.hid (CH.out.step hb)
      clear hb
      refine hK.out _ _ ⟨((box_cell BK1.out CH.out.head 4).trans rfl), ((box_cell BK1.out CH.out.head 5).trans rfl)⟩ (fun hHeld => ?_)
      clear hK K
      refine nS_ ?_
      refine two_ (i := 6) (j := 7) (Ni := some 5) (Nj := some 6) (ms_ 10 7) (mb_ 10 191) rfl rfl rfl rfl (two_of HT_.out (by kernel_rfl)) (by decide) (by decide) (fun K hK => ?_) (fun K hK => ?_)
      · skip
        refine value_ (w1 := ?_) (v := ?_) (by rfl) rfl ?_ ?_
        rotate_left 2
        · go_simp
          constructor
          · rfl
          · rfl
        have K6 := Lib.hid (blk_new z1 (.cells #[.int .u32 0] 30))
        have hb := below_new z1 (.cells #[.int .u32 0] 30)
        have S2 := sblk_lt K6.out
        replace CH := Lib.hid (CH.out.step hb)
        clear hb
        generalize z1.alloc (.cells #[.int .u32 0] 30) = z2 at K6 CH S2 ⊢
        refine hK.out _ _ ⟨((box_cell BK1.out CH.out.head 4).trans rfl), ((box_cell BK1.out CH.out.head 5).trans rfl)⟩ (fun hHeld => ?_)
        clear hK K
        refine nS_ ?_
        refine one_ (i := 7) (N := some 6) (mb_ 10 255) rfl rfl (one_of HT_.out (by kernel_rfl)) (by decide) (fun K hK => ?_)
        refine value_ (w1 := ?_) (v := ?_) (by rfl) rfl ?_ ?_
        rotate_left 2
        · go_simp
          constructor
          · rfl
          · rfl
        have K7 := Lib.hid (blk_new z2 (.cells #[.int .u32 0] 30))
        have hb := below_new z2 (.cells #[.int .u32 0] 30)
        have S3 := sblk_lt K7.out
        replace CH := Lib.hid (CH.out.step hb)
        replace K6 := Lib.hid (blk_below K6.out hb)
        clear hb
        generalize z2.alloc (.cells #[.int .u32 0] 30) = z3 at K7 K6 CH S3 ⊢
        refine hK.out _ _ ⟨((box_cell BK1.out CH.out.head 4).trans rfl), ((box_cell BK1.out CH.out.head 5).trans rfl)⟩ (fun hHeld => ?_)
        clear hK K
        refine nS_ ?_
        exact norm_ (by simp only [putAll, Act.put, List.setIfInBounds_toArray, List.set_cons_zero, List.set_cons_succ]) (hCont (z1.heap.size, z2.heap.size) _ ⟨K6.out, K7.out, by (try dsimp only); omega, by (try dsimp only); omega, by (try dsimp only); omega, CH.out⟩)
      · skip
        refine value_ (w1 := ?_) (v := ?_) (by rfl) rfl ?_ ?_
        rotate_left 2
        · go_simp
          constructor
          · rfl
          · rfl
        have K7 := Lib.hid (blk_new z1 (.cells #[.int .u32 0] 30))
        have hb := below_new z1 (.cells #[.int .u32 0] 30)
        have S2 := sblk_lt K7.out
        replace CH := Lib.hid (CH.out.step hb)
        clear hb
        generalize z1.alloc (.cells #[.int .u32 0] 30) = z2 at K7 CH S2 ⊢
        refine hK.out _ _ ⟨((box_cell BK1.out CH.out.head 4).trans rfl), ((box_cell BK1.out CH.out.head 5).trans rfl)⟩ (fun hHeld => ?_)
        clear hK K
        refine nS_ ?_
        refine one_ (i := 6) (N := some 5) (mb_ 10 255) rfl rfl (one_of HT_.out (by kernel_rfl)) (by decide) (fun K hK => ?_)
        refine value_ (w1 := ?_) (v := ?_) (by rfl) rfl ?_ ?_
        rotate_left 2
        · go_simp
          constructor
          · rfl
          · rfl
        have K6 := Lib.hid (blk_new z2 (.cells #[.int .u32 0] 30))
        have hb := below_new z2 (.cells #[.int .u32 0] 30)
        have S3 := sblk_lt K6.out
        replace CH := Lib.hid (CH.out.step hb)
        replace K7 := Lib.hid (blk_below K7.out hb)
        clear hb
        generalize z2.alloc (.cells #[.int .u32 0] 30) = z3 at K6 K7 CH S3 ⊢
        refine hK.out _ _ ⟨((box_cell BK1.out CH.out.head 4).trans rfl), ((box_cell BK1.out CH.out.head 5).trans rfl)⟩ (fun hHeld => ?_)
        clear hK K
        refine nS_ ?_
        exact norm_ (by simp only [putAll, Act.put, List.setIfInBounds_toArray, List.set_cons_zero, List.set_cons_succ]) (hCont (z2.heap.size, z1.heap.size) _ ⟨K6.out, K7.out, by (try dsimp only); omega, by (try dsimp only); omega, by (try dsimp only); omega, CH.out⟩)
    · skip
      refine value_ (w1 := ?_) (v := ?_) (by rfl) rfl ?_ ?_
      rotate_left 2
      · go_simp
        constructor
        · rfl
        · rfl
      have K6 := Lib.hid (blk_new z0 (.cells #[.int .u32 0] 30))
      have hb := below_new z0 (.cells #[.int .u32 0] 30)
      have S1 := sblk_lt K6.out
      replace CH := Lib.hid (CH.out.step hb)
      clear hb
      generalize z0.alloc (.cells #[.int .u32 0] 30) = z1 at K6 CH S1 ⊢
      refine hK.out _ _ ⟨((box_cell BK1.out CH.out.head 4).trans rfl), ((box_cell BK1.out CH.out.head 5).trans rfl)⟩ (fun hHeld => ?_)
      clear hK K
      refine nS_ ?_
      refine two_ (i := 5) (j := 7) (Ni := some 12) (Nj := some 6) (ms_ 10 7) (mb_ 10 223) rfl rfl rfl rfl (two_of HT_.out (by kernel_rfl)) (by decide) (by decide) (fun K hK => ?_) (fun K hK => ?_)
      · skip
        refine goes_ Try.func62 (by kernel_rfl) rfl #[.int .u32 en] (by rfl) rfl rfl (by simp only [List.map_toArray, List.map_cons, List.map_nil]; rfl) ?_
        with_reducible refine (gmap_count.calls en h _ EH.out).mono ?_
        rintro e z2 ⟨rfl, hd⟩
        refine ⟨_, rfl, ?_⟩
        have hb := drawn_below hd
        have S2 := hb.size
        clear hd
        replace CH := Lib.hid (CH.out.step hb)
        replace K6 := Lib.hid (blk_below K6.out hb)
        clear hb
        refine hK.out _ _ ⟨((box_cell BK1.out CH.out.head 4).trans rfl), ((box_cell BK1.out CH.out.head 5).trans rfl)⟩ (fun hHeld => ?_)
        clear hK K
        refine nS_ ?_
        refine one_ (i := 7) (N := some 6) (mb_ 10 255) rfl rfl (one_of HT_.out (by kernel_rfl)) (by decide) (fun K hK => ?_)
        refine value_ (w1 := ?_) (v := ?_) (by rfl) rfl ?_ ?_
        rotate_left 2
        · go_simp
          constructor
          · rfl
          · rfl
        have K7 := Lib.hid (blk_new z2 (.cells #[.int .u32 0] 30))
        have hb := below_new z2 (.cells #[.int .u32 0] 30)
        have S3 := sblk_lt K7.out
        replace CH := Lib.hid (CH.out.step hb)
        replace K6 := Lib.hid (blk_below K6.out hb)
        clear hb
        generalize z2.alloc (.cells #[.int .u32 0] 30) = z3 at K7 K6 CH S3 ⊢
        refine hK.out _ _ ⟨((box_cell BK1.out CH.out.head 4).trans rfl), ((box_cell BK1.out CH.out.head 5).trans rfl)⟩ (fun hHeld => ?_)
        clear hK K
        refine nS_ ?_
        exact norm_ (by simp only [putAll, Act.put, List.setIfInBounds_toArray, List.set_cons_zero, List.set_cons_succ]) (hCont (z0.heap.size, z2.heap.size) _ ⟨K6.out, K7.out, by (try dsimp only); omega, by (try dsimp only); omega, by (try dsimp only); omega, CH.out⟩)
      · skip
        refine value_ (w1 := ?_) (v := ?_) (by rfl) rfl ?_ ?_
        rotate_left 2
        · go_simp
          constructor
          · rfl
          · rfl
        have K7 := Lib.hid (blk_new z1 (.cells #[.int .u32 0] 30))
        have hb := below_new z1 (.cells #[.int .u32 0] 30)
        have S2 := sblk_lt K7.out
        replace CH := Lib.hid (CH.out.step hb)
        replace K6 := Lib.hid (blk_below K6.out hb)
        clear hb
        generalize z1.alloc (.cells #[.int .u32 0] 30) = z2 at K7 K6 CH S2 ⊢
        refine hK.out _ _ ⟨((box_cell BK1.out CH.out.head 4).trans rfl), ((box_cell BK1.out CH.out.head 5).trans rfl)⟩ (fun hHeld => ?_)
        clear hK K
        refine nS_ ?_
        refine one_ (i := 5) (N := some 12) (mb_ 10 255) rfl rfl (one_of HT_.out (by kernel_rfl)) (by decide) (fun K hK => ?_)
        refine goes_ Try.func62 (by kernel_rfl) rfl #[.int .u32 en] (by rfl) rfl rfl (by simp only [List.map_toArray, List.map_cons, List.map_nil]; rfl) ?_
        with_reducible refine (gmap_count.calls en h _ EH.out).mono ?_
        rintro e z3 ⟨rfl, hd⟩
        refine ⟨_, rfl, ?_⟩
        have hb := drawn_below hd
        have S3 := hb.size
        clear hd
        replace CH := Lib.hid (CH.out.step hb)
        replace K6 := Lib.hid (blk_below K6.out hb)
        replace K7 := Lib.hid (blk_below K7.out hb)
        clear hb
        refine hK.out _ _ ⟨((box_cell BK1.out CH.out.head 4).trans rfl), ((box_cell BK1.out CH.out.head 5).trans rfl)⟩ (fun hHeld => ?_)
        clear hK K
        refine nS_ ?_
        exact norm_ (by simp only [putAll, Act.put, List.setIfInBounds_toArray, List.set_cons_zero, List.set_cons_succ]) (hCont (z0.heap.size, z1.heap.size) _ ⟨K6.out, K7.out, by (try dsimp only); omega, by (try dsimp only); omega, by (try dsimp only); omega, CH.out⟩)
    · skip
      refine value_ (w1 := ?_) (v := ?_) (by rfl) rfl ?_ ?_
      rotate_left 2
      · go_simp
        constructor
        · rfl
        · rfl
      have K7 := Lib.hid (blk_new z0 (.cells #[.int .u32 0] 30))
      have hb := below_new z0 (.cells #[.int .u32 0] 30)
      have S1 := sblk_lt K7.out
      replace CH := Lib.hid (CH.out.step hb)
      clear hb
      generalize z0.alloc (.cells #[.int .u32 0] 30) = z1 at K7 CH S1 ⊢
      refine hK.out _ _ ⟨((box_cell BK1.out CH.out.head 4).trans rfl), ((box_cell BK1.out CH.out.head 5).trans rfl)⟩ (fun hHeld => ?_)
      clear hK K
      refine nS_ ?_
      refine two_ (i := 5) (j := 6) (Ni := some 12) (Nj := some 5) (mb_ 10 191) (mb_ 10 223) rfl rfl rfl rfl (two_of HT_.out (by kernel_rfl)) (by decide) (by decide) (fun K hK => ?_) (fun K hK => ?_)
      · skip
        refine goes_ Try.func62 (by kernel_rfl) rfl #[.int .u32 en] (by rfl) rfl rfl (by simp only [List.map_toArray, List.map_cons, List.map_nil]; rfl) ?_
        with_reducible refine (gmap_count.calls en h _ EH.out).mono ?_
        rintro e z2 ⟨rfl, hd⟩
        refine ⟨_, rfl, ?_⟩
        have hb := drawn_below hd
        have S2 := hb.size
        clear hd
        replace CH := Lib.hid (CH.out.step hb)
        replace K7 := Lib.hid (blk_below K7.out hb)
        clear hb
        refine hK.out _ _ ⟨((box_cell BK1.out CH.out.head 4).trans rfl), ((box_cell BK1.out CH.out.head 5).trans rfl)⟩ (fun hHeld => ?_)
        clear hK K
        refine nS_ ?_
        refine one_ (i := 6) (N := some 5) (mb_ 10 255) rfl rfl (one_of HT_.out (by kernel_rfl)) (by decide) (fun K hK => ?_)
        refine value_ (w1 := ?_) (v := ?_) (by rfl) rfl ?_ ?_
        rotate_left 2
        · go_simp
          constructor
          · rfl
          · rfl
        have K6 := Lib.hid (blk_new z2 (.cells #[.int .u32 0] 30))
        have hb := below_new z2 (.cells #[.int .u32 0] 30)
        have S3 := sblk_lt K6.out
        replace CH := Lib.hid (CH.out.step hb)
        replace K7 := Lib.hid (blk_below K7.out hb)
        clear hb
        generalize z2.alloc (.cells #[.int .u32 0] 30) = z3 at K6 K7 CH S3 ⊢
        refine hK.out _ _ ⟨((box_cell BK1.out CH.out.head 4).trans rfl), ((box_cell BK1.out CH.out.head 5).trans rfl)⟩ (fun hHeld => ?_)
        clear hK K
        refine nS_ ?_
        exact norm_ (by simp only [putAll, Act.put, List.setIfInBounds_toArray, List.set_cons_zero, List.set_cons_succ]) (hCont (z2.heap.size, z0.heap.size) _ ⟨K6.out, K7.out, by (try dsimp only); omega, by (try dsimp only); omega, by (try dsimp only); omega, CH.out⟩)
      · skip
        refine value_ (w1 := ?_) (v := ?_) (by rfl) rfl ?_ ?_
        rotate_left 2
        · go_simp
          constructor
          · rfl
          · rfl
        have K6 := Lib.hid (blk_new z1 (.cells #[.int .u32 0] 30))
        have hb := below_new z1 (.cells #[.int .u32 0] 30)
        have S2 := sblk_lt K6.out
        replace CH := Lib.hid (CH.out.step hb)
        replace K7 := Lib.hid (blk_below K7.out hb)
        clear hb
        generalize z1.alloc (.cells #[.int .u32 0] 30) = z2 at K6 K7 CH S2 ⊢
        refine hK.out _ _ ⟨((box_cell BK1.out CH.out.head 4).trans rfl), ((box_cell BK1.out CH.out.head 5).trans rfl)⟩ (fun hHeld => ?_)
        clear hK K
        refine nS_ ?_
        refine one_ (i := 5) (N := some 12) (mb_ 10 255) rfl rfl (one_of HT_.out (by kernel_rfl)) (by decide) (fun K hK => ?_)
        refine goes_ Try.func62 (by kernel_rfl) rfl #[.int .u32 en] (by rfl) rfl rfl (by simp only [List.map_toArray, List.map_cons, List.map_nil]; rfl) ?_
        with_reducible refine (gmap_count.calls en h _ EH.out).mono ?_
        rintro e z3 ⟨rfl, hd⟩
        refine ⟨_, rfl, ?_⟩
        have hb := drawn_below hd
        have S3 := hb.size
        clear hd
        replace CH := Lib.hid (CH.out.step hb)
        replace K7 := Lib.hid (blk_below K7.out hb)
        replace K6 := Lib.hid (blk_below K6.out hb)
        clear hb
        refine hK.out _ _ ⟨((box_cell BK1.out CH.out.head 4).trans rfl), ((box_cell BK1.out CH.out.head 5).trans rfl)⟩ (fun hHeld => ?_)
        clear hK K
        refine nS_ ?_
        exact norm_ (by simp only [putAll, Act.put, List.setIfInBounds_toArray, List.set_cons_zero, List.set_cons_succ]) (hCont (z1.heap.size, z0.heap.size) _ ⟨K6.out, K7.out, by (try dsimp only); omega, by (try dsimp only); omega, by (try dsimp only); omega, CH.out⟩)
  rintro ⟨bl, bh⟩ wz ⟨kl, kh, hne, hbl, hbh, hch⟩
  dsimp only at kl kh hne hbl hbh
  replace CH := Lib.hid hch
  clear hch
  have hHeld : wz.cell? ⟨w.heap.size, 4, none⟩ = some (.int .u32 st) ∧ wz.cell? ⟨w.heap.size, 5, none⟩ = some (.int .u32 en) := ⟨((box_cell BK1.out CH.out.head 4).trans rfl), ((box_cell BK1.out CH.out.head 5).trans rfl)⟩
  have q_l := (sblk_cell kl 0).trans rfl
  have q_h := (sblk_cell kh 0).trans rfl
  have f_l := blk_frozen kl 0
  have f_h := blk_frozen kh 0
  have KL := Lib.hid kl
  have KH := Lib.hid kh
  clear kl kh
  have hne2 := Ne.symm hne
  refine norm_ (a' := ?_) ?_ ?_
  rotate_left
  · simp only [putAll, Act.put, List.setIfInBounds_toArray, List.set_cons_zero, List.set_cons_succ]
    rfl
  refine one_ (i := 8) (N := none) (mb_ 10 511) rfl rfl (one_of HT_.out (by kernel_rfl)) (by decide) (fun K hK => ?_)
  refine skip_ (w1 := ?_) (by rfl) rfl ?_ ?_
  rotate_left
  · go_simp
    rfl
  have N1 := Lib.hid (blk_put KL.out 0 (.int .u32 (Int.tdiv st 4096)) rfl)
  have N2 := Lib.hid (blk_far (p := ⟨bl, 0, none⟩) KH.out hne2 (.int .u32 (Int.tdiv st 4096)))
  replace CH := Lib.hid (show Chain [y1, w] (wz.setCell ⟨bl, 0, none⟩ (.int .u32 (Int.tdiv st 4096))) from ⟨below_set (CH.out.head) (by have := ZS.out; (try dsimp only); omega), below_set (CH.out.tail.head) (by have := ZS.out; (try dsimp only); omega), trivial⟩)
  clear KL KH
  have KL := N1
  have KH := N2
  clear N1 N2
  generalize wz.setCell ⟨bl, 0, none⟩ (.int .u32 (Int.tdiv st 4096)) = wy at KL KH CH ⊢
  have q_l := (sblk_cell KL.out 0).trans rfl
  have q_h := (sblk_cell KH.out 0).trans rfl
  have f_l := blk_frozen KL.out 0
  have f_h := blk_frozen KH.out 0
  refine hK.out _ _ ⟨((box_cell BK1.out CH.out.head 4).trans rfl), ((box_cell BK1.out CH.out.head 5).trans rfl)⟩ (fun hHeld => ?_)
  clear hK K
  refine one_ (i := 9) (N := none) (mb_ 10 1023) rfl rfl (one_of HT_.out (by kernel_rfl)) (by decide) (fun K hK => ?_)
  refine skip_ (w1 := ?_) (by rfl) rfl ?_ ?_
  rotate_left
  · go_simp
    rfl
  have N1 := Lib.hid (blk_put KH.out 0 (.int .u32 h) rfl)
  have N2 := Lib.hid (blk_far (p := ⟨bh, 0, none⟩) KL.out hne (.int .u32 h))
  replace CH := Lib.hid (show Chain [y1, w] (wy.setCell ⟨bh, 0, none⟩ (.int .u32 h)) from ⟨below_set (CH.out.head) (by have := ZS.out; (try dsimp only); omega), below_set (CH.out.tail.head) (by have := ZS.out; (try dsimp only); omega), trivial⟩)
  clear KL KH
  have KH := N1
  have KL := N2
  clear N1 N2
  generalize wy.setCell ⟨bh, 0, none⟩ (.int .u32 h) = ww at KL KH CH ⊢
  have q_l := (sblk_cell KL.out 0).trans rfl
  have q_h := (sblk_cell KH.out 0).trans rfl
  have f_l := blk_frozen KL.out 0
  have f_h := blk_frozen KH.out 0
  refine hK.out _ _ ⟨((box_cell BK1.out CH.out.head 4).trans rfl), ((box_cell BK1.out CH.out.head 5).trans rfl)⟩ (fun hHeld => ?_)
  clear hK K
  refine done_ (done_of HT_.out (by kernel_rfl)) ?_
  go_wp2
  go_ret
  exact ⟨_, _, _, _, rfl, CH.out.tail.head, blk_below (BK2.out) CH.out.head, blk_below BK1.out CH.out.head, KL.out, KH.out⟩
theorem gRoom_stops (w0 : World) (Bn Bs Bl Bh : Nat) (A0 : Option Addr) (c0 : Nat) (l0 : List SM) (A1 : Option Addr) (c1 : Nat) (l1 : List SC) (b : Int) (A3 : Option Addr) (c3 : Nat) (p : List SP) (st en n low high : Int)
    (hr : Kd.C kP w0 A3 p.length p) (hc : p.length ≤ c3) (hp : p.length ≤ 1000000) (n0 : 0 ≤ n) (n1 : n < 4294967296) (lo0 : 0 ≤ low) (w : World) (hI : MInv w0 Bn Bs Bl Bh #[.slice A0 l0.length c0, .slice A1 l1.length c1, .int .u64 b, .slice A3 p.length c3, .int .u32 st, .int .u32 en] n low high w) :
    SeqStopsX Fence.wide 5 Try.prog 138 #[.pointer (some ⟨Bn, 0, none⟩), .pointer (some ⟨Bs, 0, none⟩), .pointer (some ⟨Bl, 0, none⟩), .pointer (some ⟨Bh, 0, none⟩)] (fun x : Int × Bool => #[.int .u32 x.1, .bool x.2]) (fun pre => ∀ x ∈ pre, x.2 = false)
      (KmR w.heap.size (MInv w0 Bn Bs Bl Bh #[.slice A0 l0.length c0, .slice A1 l1.length c1, .int .u64 b, .slice A3 p.length c3, .int .u32 st, .int .u32 en] n low high)) (fun _ => ∀ k, 458752 < k → freeGo p low high n k 458752 = some (0, false)) (fun pre => ∃ pre' x, pre = pre' ++ [x] ∧ (x.2 = true → ∀ k, 458752 < k → freeGo p low high n k 458752 = some (x.1, true))) 458753 w :=
  fun l J Jx W hW hz hJ hJx hT hY h0 => gRoom1_any w0 l Bn Bs Bl Bh A0 c0 l0 A1 c1 l1 b A3 c3 p st en n low high hr hc hp n0 n1 lo0 J Jx hT w.heap.size hY W hz (hI.below hW) hJ hJx h0
theorem kmr_t {z : Nat} {I : World → Prop} {A B C : World} (h : KmR z I A B) (k : KmR z I B C) : KmR z I A C := ⟨fun x => k.1 (h.1 x), fun j o hj ho => k.2 j o hj (h.2 j o hj ho)⟩
end Go.Proofs.Ytgkjdpdmmlalcaa.F
end
