import Derived.Test.YtgkjdpdmmlalcaaKZF0
import Derived.Test.YtgkjdpdmmlalcaaKA0
import Derived.Test.YtgkjdpdmmlalcaaKA5
import Derived.Test.YtgkjdpdmmlalcaaKA22
import Derived.Test.YtgkjdpdmmlalcaaKA29
section
namespace Go.Proofs.Ytgkjdpdmmlalcaa.F
open Go.RowKit Go.Proofs.YtgkjdpdmmlalcaaW.PrintWords Go.Proofs.YtgkjdpdmmlalcaaW.PrintLast Go.Proofs.YtgkjdpdmmlalcaaW.PrintMore
attribute [local go_sem] max2_int min2_int max_two min_two max_three min_three max_four min_four
attribute [local go_sem] cell_twice
set_option linter.unusedVariables false
set_option linter.unusedSimpArgs false

def ferryref05_Store.f (k : Nat) (l0_0 : List (S83)) (l0_1 : List (S88)) (a0_2 : Int) (l0_3 : List (S41)) (a1 : Int) (a2 : Int) (a3 : Int) : Option ((List (S83)) × (List (S88)) × Int × (List (S41)) × Int × Int) := (ferryref05_sized.f a2).bind fun t527 => (if t527 = true then ((ferryref01_PutBe.f k a3 a2).bind fun t528 => ((ferryref05_Put.f k l0_0 l0_1 a0_2 l0_3 a1 t528).bind fun bt529 => (some (bt529.1, bt529.2.1, bt529.2.2.1, bt529.2.2.2.1, bt529.2.2.2.2.1, bt529.2.2.2.2.2)))) else (some (l0_0, l0_1, a0_2, l0_3, 0, 0)))
def ferryref05_Store.T3 : Bool × List (List Nat × List Nat) := (true, [([], []), ([], []), ([], []), ([], []), ([2, 3], [2, 3]), ([0, 1, 4, 4], [0, 1, 4]), ([5], [5]), ([5], [5]), ([6, 5, 0, 1, 2, 3, 4, 5, 6, 7], [6]), ([7, 8, 0, 1, 2, 3, 4, 5, 6, 7, 8], [7])])
def ferryref05_Store.B3 : List Nat := [0, 0, 0, 0, 12, 31, 63, 63, 255, 511]
theorem ferryref05_Store.tab3 : rtab .any (opsOf Try.f22 3) = ferryref05_Store.T3 := by kernel_rfl
theorem ferryref05_Store.bits3 : waitsOk ferryref05_Store.T3.2 ferryref05_Store.B3 = true := by kernel_rfl
set_option maxHeartbeats 8000000 in
set_option maxRecDepth 100000 in
theorem ferryref05_Store.calls (k : Nat) (P0_0_ : Nat → Prop) (A0_0 : Option Addr) (c0_0 : Nat) (l0_0 : List (S83)) (P0_1_ : Nat → Prop) (A0_1 : Option Addr) (c0_1 : Nat) (l0_1 : List (S88)) (a0_2 : Int) (P0_3_ : Nat → Prop) (A0_3 : Option Addr) (c0_3 : Nat) (l0_3 : List (S41)) (a1 : Int) (a2 : Int) (a3 : Int) (r1 : List (S83)) (r2 : List (S88)) (r3 : Int) (r4 : List (S41)) (r5 : Int) (r6 : Int) (w : World) (hs0_0 : Kd.V k83 83 w w.heap.size (fun k_ => P0_0_ k_) (.slice A0_0 l0_0.length c0_0) l0_0) (hs0_1 : Kd.V k88 88 w w.heap.size (fun k_ => P0_1_ k_) (.slice A0_1 l0_1.length c0_1) l0_1) (hs0_3 : Kd.V k41 41 w w.heap.size (fun k_ => P0_3_ k_) (.slice A0_3 l0_3.length c0_3) l0_3) (h : ferryref05_Store.f k l0_0 l0_1 a0_2 l0_3 a1 a2 a3 = some (r1, r2, r3, r4, r5, r6)) :
    Calls Try.prog 22 #[.agg #[.slice A0_0 l0_0.length c0_0, .slice A0_1 l0_1.length c0_1, .int .u64 a0_2, .slice A0_3 l0_3.length c0_3], .int .u32 a1, .int .i64 a2, .int .u64 a3] w fun e w' => ∃ v0_ v1_ v3_ : Value, e = .returned (.tuple #[.agg #[v0_, v1_, .int .u64 r3, v3_], .agg #[.int .i64 r5, .int .u64 r6]]) ∧ Kd.V k83 83 w' w.heap.size (fun k_ => ((P0_0_ k_ ∨ P0_1_ k_ ∨ P0_3_ k_) ∨ w.heap.size ≤ k_)) v0_ r1 ∧ Kd.V k88 88 w' w.heap.size (fun k_ => ((P0_0_ k_ ∨ P0_1_ k_ ∨ P0_3_ k_) ∨ w.heap.size ≤ k_)) v1_ r2 ∧ Kd.V k41 41 w' w.heap.size (fun k_ => ((P0_0_ k_ ∨ P0_1_ k_ ∨ P0_3_ k_) ∨ w.heap.size ≤ k_)) v3_ r4 ∧ Below w.heap.size w w' := by
  have hu29 := Try.underlying29
  have hu34 := Try.underlying34
  have HO0_0 := Aside0.mk (show Kd.V k83 83 w w.heap.size (fun k_ => ((P0_0_ k_ ∨ P0_1_ k_ ∨ P0_3_ k_) ∨ w.heap.size ≤ k_)) (.slice A0_0 l0_0.length c0_0) l0_0 from Kd.V_mono hs0_0 (fun k_ hk => .inl (.inl hk)))
  have HO0_1 := Aside0.mk (show Kd.V k88 88 w w.heap.size (fun k_ => ((P0_0_ k_ ∨ P0_1_ k_ ∨ P0_3_ k_) ∨ w.heap.size ≤ k_)) (.slice A0_1 l0_1.length c0_1) l0_1 from Kd.V_mono hs0_1 (fun k_ hk => .inl (.inr (.inl hk))))
  have HO0_3 := Aside0.mk (show Kd.V k41 41 w w.heap.size (fun k_ => ((P0_0_ k_ ∨ P0_1_ k_ ∨ P0_3_ k_) ∨ w.heap.size ≤ k_)) (.slice A0_3 l0_3.length c0_3) l0_3 from Kd.V_mono hs0_3 (fun k_ hk => .inl (.inr (.inr hk))))
  have HB := Aside0.mk (Below.refl w.heap.size w)
  have H : ((ferryref05_sized.f a2).bind fun t527 => (if t527 = true then ((ferryref01_PutBe.f k a3 a2).bind fun t528 => ((ferryref05_Put.f k l0_0 l0_1 a0_2 l0_3 a1 t528).bind fun bt529 => (some (bt529.1, bt529.2.1, bt529.2.2.1, bt529.2.2.2.1, bt529.2.2.2.2.1, bt529.2.2.2.2.2)))) else (some (l0_0, l0_1, a0_2, l0_3, 0, 0)))) = some (r1, r2, r3, r4, r5, r6) := h
  clear h
  replace H := Option.bind_eq_some_iff.mp H
  obtain ⟨t527, A50, H⟩ := H
  have A5 := Aside0.mk A50
  clear A50
  by_cases c6 : t527 = true
  · subst c6
    replace H := hP_ H
    replace H := Option.bind_eq_some_iff.mp H
    obtain ⟨t528, A70, H⟩ := H
    have A7 := Aside0.mk A70
    clear A70
    replace H := Option.bind_eq_some_iff.mp H
    obtain ⟨⟨t529, t532, t535, t536, t539, t540⟩, A80, H⟩ := H
    have A8 := Aside0.mk A80
    clear A80
    simp only [Option.some.injEq, Prod.mk.injEq] at H
    obtain ⟨rfl, rfl, rfl, rfl, rfl, rfl⟩ := H
    go_enter Try.func22, Try.ntmps22
    try go_wp2_with (first | ((with_reducible refine gate_dst (N := 4) rfl ?_); refine bE_ 4 #[.slice A0_0 l0_0.length c0_0, .slice A0_1 l0_1.length c0_1, .int .u64 a0_2, .slice A0_3 l0_3.length c0_3] 29 ?_; intro gb524 hg w9 hbox hb; have BK524 := Aside0.mk hbox; have GW524 := geT_ w.heap.size hg; have GE524 := geT_ w.heap.size hg; replace HO0_0 := vE_ HO0_0.out hg hb; replace HO0_1 := vE_ HO0_1.out hg hb; replace HO0_3 := vE_ HO0_3.out hg hb; replace HB := hB_ hb; clear hb hbox hg) | ((with_reducible refine gate_dst (N := 8) rfl ?_); refine bE_ 8 #[.slice none 0 0, .slice none 0 0, .int .u64 0, .slice none 0 0] 29 ?_; intro gb525 hg w10 hbox hb; have BK525 := Aside0.mk hbox; have GW525 := geT_ w.heap.size hg; have GE525 := geT_ w.heap.size hg; have NB524_525 := nlT_ BK524.out hg; have NB525_524 := ngT_ BK524.out hg; replace HO0_0 := vE_ HO0_0.out hg hb; replace HO0_1 := vE_ HO0_1.out hg hb; replace HO0_3 := vE_ HO0_3.out hg hb; replace BK524 := kB_ BK524 hb; replace HB := hB_ hb; clear hb hbox hg) | ((with_reducible refine gate_dst (N := 9) rfl ?_); refine bE_ 9 #[.int .i64 0, .int .u64 0] 34 ?_; intro gb526 hg w11 hbox hb; have BK526 := Aside0.mk hbox; have GW526 := geT_ w.heap.size hg; have GE526 := geT_ w.heap.size hg; have NB524_526 := nlT_ BK524.out hg; have NB526_524 := ngT_ BK524.out hg; have NB525_526 := nlT_ BK525.out hg; have NB526_525 := ngT_ BK525.out hg; replace HO0_0 := vE_ HO0_0.out hg hb; replace HO0_1 := vE_ HO0_1.out hg hb; replace HO0_3 := vE_ HO0_3.out hg hb; replace BK524 := kB_ BK524 hb; replace BK525 := kB_ BK525 hb; replace HB := hB_ hb; clear hb hbox hg) | ((with_reducible refine gate_callee (f := 52) rfl ?_); refine gL_ (some 11) Try.func52 #[.int .i64 a2] ?_; (with_reducible refine (ferryref05_sized.calls a2 true _ A5.out).mono ?_); rintro e w' ⟨rfl, ⟨nd, rfl⟩⟩; refine ⟨_, rfl, ?_⟩; (try (rw [drewN_self w11]; generalize hq_ : World.drewN w11 _ = w11; replace HO0_0 : Aside0 (Kd.V k83 83 w11 w.heap.size (fun k_ => ((P0_0_ k_ ∨ P0_1_ k_ ∨ P0_3_ k_) ∨ w.heap.size ≤ k_) ∧ k_ ≠ gb524 ∧ k_ ≠ gb525 ∧ k_ ≠ gb526) (.slice A0_0 l0_0.length c0_0) l0_0) := ⟨by rw [← hq_]; exact (vM_ HO0_0.out)⟩; replace HO0_1 : Aside0 (Kd.V k88 88 w11 w.heap.size (fun k_ => ((P0_0_ k_ ∨ P0_1_ k_ ∨ P0_3_ k_) ∨ w.heap.size ≤ k_) ∧ k_ ≠ gb524 ∧ k_ ≠ gb525 ∧ k_ ≠ gb526) (.slice A0_1 l0_1.length c0_1) l0_1) := ⟨by rw [← hq_]; exact (vM_ HO0_1.out)⟩; replace HO0_3 : Aside0 (Kd.V k41 41 w11 w.heap.size (fun k_ => ((P0_0_ k_ ∨ P0_1_ k_ ∨ P0_3_ k_) ∨ w.heap.size ≤ k_) ∧ k_ ≠ gb524 ∧ k_ ≠ gb525 ∧ k_ ≠ gb526) (.slice A0_3 l0_3.length c0_3) l0_3) := ⟨by rw [← hq_]; exact (vM_ HO0_3.out)⟩; replace BK524 : Aside0 (w11.heap[gb524]? = some (.cells #[.slice A0_0 l0_0.length c0_0, .slice A0_1 l0_1.length c0_1, .int .u64 a0_2, .slice A0_3 l0_3.length c0_3] 29 (0, 0))) := ⟨by rw [← hq_]; exact (bT_ BK524.out)⟩; replace BK525 : Aside0 (w11.heap[gb525]? = some (.cells #[.slice none 0 0, .slice none 0 0, .int .u64 0, .slice none 0 0] 29 (0, 0))) := ⟨by rw [← hq_]; exact (bT_ BK525.out)⟩; replace BK526 : Aside0 (w11.heap[gb526]? = some (.cells #[.int .i64 0, .int .u64 0] 34 (0, 0))) := ⟨by rw [← hq_]; exact (bT_ BK526.out)⟩; replace HB : Aside0 (Below w.heap.size w w11) := ⟨by rw [← hq_]; exact beT_⟩; clear hq_))))
    replace HO0_0 := Aside0.mk (Kd.V_drew HO0_0.out)
    replace HO0_1 := Aside0.mk (Kd.V_drew HO0_1.out)
    replace HO0_3 := Aside0.mk (Kd.V_drew HO0_3.out)
    replace BK524 := Aside0.mk (blk_drew BK524.out)
    replace BK525 := Aside0.mk (blk_drew BK525.out)
    replace BK526 := Aside0.mk (blk_drew BK526.out)
    replace HB := Aside0.mk (below_drew1 HB.out)
    refine start_ (n := 10) (S := fun w' => w'.cell? ⟨gb524, 0, none⟩ = some (.slice A0_0 l0_0.length c0_0) ∧ w'.cell? ⟨gb524, 1, none⟩ = some (.slice A0_1 l0_1.length c0_1) ∧ w'.cell? ⟨gb524, 2, none⟩ = some (.int .u64 a0_2) ∧ w'.cell? ⟨gb524, 3, none⟩ = some (.slice A0_3 l0_3.length c0_3)) (ds := []) (mb_ 10 0) (by kernel_rfl) rfl rfl ⟨(blk_cell BK524.out 0).trans rfl, (blk_cell BK524.out 1).trans rfl, (blk_cell BK524.out 2).trans rfl, (blk_cell BK524.out 3).trans rfl⟩ (fun hHeld => ?_); refine with_tabW ferryref05_Store.tab3 ferryref05_Store.bits3 (fun HT_ HW_ => ?_)
    generalize w11.drew = w12 at HO0_0 HO0_1 HO0_3 BK524 BK525 BK526 HB hHeld ⊢
    refine pS_ 1 16 (mb_ 10 2) ?_
    refine pS_ 2 17 (mb_ 10 6) ?_
    refine pS_ 3 18 (mb_ 10 14) ?_
    refine t4S_ 0 15 (mb_ 10 15) ?_
    refine one_ (i := 4) (N := some 19) (mb_ 10 31) rfl rfl (one_of HT_.out (by kernel_rfl)) (by decide) (fun K hK => ?_)
    refine goes_ Try.func53 (by kernel_rfl) rfl #[.int .u64 a3, .int .i64 a2] (by rfl) rfl rfl aT_ ?_
    with_reducible refine (ferryref01_PutBe.calls k a3 a2 t528 _ A7.out).mono ?_
    rintro e w13 ⟨rfl, hb⟩
    refine ⟨_, rfl, ?_⟩
    replace HO0_0 := vB_ HO0_0.out hb
    replace HO0_1 := vB_ HO0_1.out hb
    replace HO0_3 := vB_ HO0_3.out hb
    replace BK524 := kB_ BK524 hb
    replace BK525 := kB_ BK525 hb
    replace BK526 := kB_ BK526 hb
    replace HB := hB_ hb
    (try clear hb)
    refine hK.out _ _ ⟨(blk_cell BK524.out 0).trans rfl, (blk_cell BK524.out 1).trans rfl, (blk_cell BK524.out 2).trans rfl, (blk_cell BK524.out 3).trans rfl⟩ (fun hHeld => ?_)
    clear hK K
    refine nS_ ?_
    refine one_ (i := 5) (N := some 20) (mb_ 10 63) rfl rfl (one_of HT_.out (by kernel_rfl)) (by decide) (fun K hK => ?_)
    refine goes_ Try.func18 (by kernel_rfl) rfl #[.agg #[.slice A0_0 l0_0.length c0_0, .slice A0_1 l0_1.length c0_1, .int .u64 a0_2, .slice A0_3 l0_3.length c0_3], .int .u32 a1, .string t528] (by rfl) rfl rfl aT_ ?_
    with_reducible refine (ferryref05_Put.calls k (fun k_ => (((((P0_0_ k_ ∨ P0_1_ k_ ∨ P0_3_ k_) ∨ w.heap.size ≤ k_) ∧ k_ ≠ gb524) ∧ k_ ≠ gb525) ∧ k_ ≠ gb526)) _ _ l0_0 (fun k_ => (((((P0_0_ k_ ∨ P0_1_ k_ ∨ P0_3_ k_) ∨ w.heap.size ≤ k_) ∧ k_ ≠ gb524) ∧ k_ ≠ gb525) ∧ k_ ≠ gb526)) _ _ l0_1 a0_2 (fun k_ => (((((P0_0_ k_ ∨ P0_1_ k_ ∨ P0_3_ k_) ∨ w.heap.size ≤ k_) ∧ k_ ≠ gb524) ∧ k_ ≠ gb525) ∧ k_ ≠ gb526)) _ _ l0_3 a1 t528 t529 t532 t535 t536 t539 t540 _ ?side1 ?side2 ?side3 A8.out).mono ?_
    (case side1 => exact Kd.V_mono HO0_0.out (fun _ hk => by grind))
    (case side2 => exact Kd.V_mono HO0_1.out (fun _ hk => by grind))
    (case side3 => exact Kd.V_mono HO0_3.out (fun _ hk => by grind))
    rintro e w14 ⟨v530, v533, v537, rfl, ho0, ho1, ho2, hb⟩
    refine ⟨_, rfl, ?_⟩
    have HO531 := Aside0.mk (Kd.V_lower (Kd.V_mono (ok' := fun k_ => ((P0_0_ k_ ∨ P0_1_ k_ ∨ P0_3_ k_) ∨ w.heap.size ≤ k_) ∧ k_ ≠ gb524 ∧ k_ ≠ gb525 ∧ k_ ≠ gb526) ho0 (fun k_ hk_ => ⟨Or.elim hk_ (fun hs_ => Or.elim hs_ (fun hs_ => hs_.1.1.1) (fun hs_ => Or.elim hs_ (fun hs_ => hs_.1.1.1) (fun hs_ => hs_.1.1.1))) (fun hn_ => (.inr (Nat.le_trans (below_size beT_) hn_))), Or.elim hk_ (fun hs_ => Or.elim hs_ (fun hs_ => hs_.1.1.2) (fun hs_ => Or.elim hs_ (fun hs_ => hs_.1.1.2) (fun hs_ => hs_.1.1.2))) (fun hn_ => (Kd.freshB (g := gb524) (o := .cells #[.slice A0_0 l0_0.length c0_0, .slice A0_1 l0_1.length c0_1, .int .u64 a0_2, .slice A0_3 l0_3.length c0_3] 29 (0, 0)) (bT_ BK524.out) k_ hn_)), Or.elim hk_ (fun hs_ => Or.elim hs_ (fun hs_ => hs_.1.2) (fun hs_ => Or.elim hs_ (fun hs_ => hs_.1.2) (fun hs_ => hs_.1.2))) (fun hn_ => (Kd.freshB (g := gb525) (o := .cells #[.slice none 0 0, .slice none 0 0, .int .u64 0, .slice none 0 0] 29 (0, 0)) (bT_ BK525.out) k_ hn_)), Or.elim hk_ (fun hs_ => Or.elim hs_ (fun hs_ => hs_.2) (fun hs_ => Or.elim hs_ (fun hs_ => hs_.2) (fun hs_ => hs_.2))) (fun hn_ => (Kd.freshB (g := gb526) (o := .cells #[.int .i64 0, .int .u64 0] 34 (0, 0)) (bT_ BK526.out) k_ hn_))⟩)) (below_size beT_))
    have HO534 := Aside0.mk (Kd.V_lower (Kd.V_mono (ok' := fun k_ => ((P0_0_ k_ ∨ P0_1_ k_ ∨ P0_3_ k_) ∨ w.heap.size ≤ k_) ∧ k_ ≠ gb524 ∧ k_ ≠ gb525 ∧ k_ ≠ gb526) ho1 (fun k_ hk_ => ⟨Or.elim hk_ (fun hs_ => Or.elim hs_ (fun hs_ => hs_.1.1.1) (fun hs_ => Or.elim hs_ (fun hs_ => hs_.1.1.1) (fun hs_ => hs_.1.1.1))) (fun hn_ => (.inr (Nat.le_trans (below_size beT_) hn_))), Or.elim hk_ (fun hs_ => Or.elim hs_ (fun hs_ => hs_.1.1.2) (fun hs_ => Or.elim hs_ (fun hs_ => hs_.1.1.2) (fun hs_ => hs_.1.1.2))) (fun hn_ => (Kd.freshB (g := gb524) (o := .cells #[.slice A0_0 l0_0.length c0_0, .slice A0_1 l0_1.length c0_1, .int .u64 a0_2, .slice A0_3 l0_3.length c0_3] 29 (0, 0)) (bT_ BK524.out) k_ hn_)), Or.elim hk_ (fun hs_ => Or.elim hs_ (fun hs_ => hs_.1.2) (fun hs_ => Or.elim hs_ (fun hs_ => hs_.1.2) (fun hs_ => hs_.1.2))) (fun hn_ => (Kd.freshB (g := gb525) (o := .cells #[.slice none 0 0, .slice none 0 0, .int .u64 0, .slice none 0 0] 29 (0, 0)) (bT_ BK525.out) k_ hn_)), Or.elim hk_ (fun hs_ => Or.elim hs_ (fun hs_ => hs_.2) (fun hs_ => Or.elim hs_ (fun hs_ => hs_.2) (fun hs_ => hs_.2))) (fun hn_ => (Kd.freshB (g := gb526) (o := .cells #[.int .i64 0, .int .u64 0] 34 (0, 0)) (bT_ BK526.out) k_ hn_))⟩)) (below_size beT_))
    have HO538 := Aside0.mk (Kd.V_lower (Kd.V_mono (ok' := fun k_ => ((P0_0_ k_ ∨ P0_1_ k_ ∨ P0_3_ k_) ∨ w.heap.size ≤ k_) ∧ k_ ≠ gb524 ∧ k_ ≠ gb525 ∧ k_ ≠ gb526) ho2 (fun k_ hk_ => ⟨Or.elim hk_ (fun hs_ => Or.elim hs_ (fun hs_ => hs_.1.1.1) (fun hs_ => Or.elim hs_ (fun hs_ => hs_.1.1.1) (fun hs_ => hs_.1.1.1))) (fun hn_ => (.inr (Nat.le_trans (below_size beT_) hn_))), Or.elim hk_ (fun hs_ => Or.elim hs_ (fun hs_ => hs_.1.1.2) (fun hs_ => Or.elim hs_ (fun hs_ => hs_.1.1.2) (fun hs_ => hs_.1.1.2))) (fun hn_ => (Kd.freshB (g := gb524) (o := .cells #[.slice A0_0 l0_0.length c0_0, .slice A0_1 l0_1.length c0_1, .int .u64 a0_2, .slice A0_3 l0_3.length c0_3] 29 (0, 0)) (bT_ BK524.out) k_ hn_)), Or.elim hk_ (fun hs_ => Or.elim hs_ (fun hs_ => hs_.1.2) (fun hs_ => Or.elim hs_ (fun hs_ => hs_.1.2) (fun hs_ => hs_.1.2))) (fun hn_ => (Kd.freshB (g := gb525) (o := .cells #[.slice none 0 0, .slice none 0 0, .int .u64 0, .slice none 0 0] 29 (0, 0)) (bT_ BK525.out) k_ hn_)), Or.elim hk_ (fun hs_ => Or.elim hs_ (fun hs_ => hs_.2) (fun hs_ => Or.elim hs_ (fun hs_ => hs_.2) (fun hs_ => hs_.2))) (fun hn_ => (Kd.freshB (g := gb526) (o := .cells #[.int .i64 0, .int .u64 0] 34 (0, 0)) (bT_ BK526.out) k_ hn_))⟩)) (below_size beT_))
    replace HO0_0 := vB_ HO0_0.out hb
    replace HO0_1 := vB_ HO0_1.out hb
    replace HO0_3 := vB_ HO0_3.out hb
    replace BK524 := kB_ BK524 hb
    replace BK525 := kB_ BK525 hb
    replace BK526 := kB_ BK526 hb
    replace HB := hB_ hb
    (try clear hb)
    (try clear ho0)
    (try clear ho1)
    (try clear ho2)
    obtain ⟨Ao15, co15, eo15⟩ := Kd.V_slice HO531.out
    (subst eo15)
    obtain ⟨Ao17, co17, eo17⟩ := Kd.V_slice HO534.out
    (subst eo17)
    obtain ⟨Ao20, co20, eo20⟩ := Kd.V_slice HO538.out
    (subst eo20)
    refine hK.out _ _ ⟨(blk_cell BK524.out 0).trans rfl, (blk_cell BK524.out 1).trans rfl, (blk_cell BK524.out 2).trans rfl, (blk_cell BK524.out 3).trans rfl⟩ (fun hHeld => ?_)
    clear hK K
    refine nS_ ?_
    refine pS_ 6 21 (mb_ 10 127) ?_
    refine pS_ 7 22 (mb_ 10 255) ?_
    refine one_ (i := 8) (N := none) (mb_ 10 511) rfl rfl (one_of HT_.out (by kernel_rfl)) (by decide) (fun K hK => ?_)
    have hs16 : w14.cell? ⟨gb525, 0, none⟩ = some (.slice none 0 0) := (blk_cell BK525.out 0).trans rfl
    have hfs16 := blk_frozen BK525.out 0
    have hns16_0 := NB524_525.out
    have hns16_2 := NB526_525.out
    have hms16_0 := NB525_524.out
    have hms16_2 := NB525_526.out
    have hs18 : w14.cell? ⟨gb525, 1, none⟩ = some (.slice none 0 0) := (blk_cell BK525.out 1).trans rfl
    have hfs18 := blk_frozen BK525.out 1
    have hns18_0 := NB524_525.out
    have hns18_2 := NB526_525.out
    have hms18_0 := NB525_524.out
    have hms18_2 := NB525_526.out
    have hs19 : w14.cell? ⟨gb525, 2, none⟩ = some (.int .u64 0) := (blk_cell BK525.out 2).trans rfl
    have hfs19 := blk_frozen BK525.out 2
    have hns19_0 := NB524_525.out
    have hns19_2 := NB526_525.out
    have hms19_0 := NB525_524.out
    have hms19_2 := NB525_526.out
    have hs21 : w14.cell? ⟨gb525, 3, none⟩ = some (.slice none 0 0) := (blk_cell BK525.out 3).trans rfl
    have hfs21 := blk_frozen BK525.out 3
    have hns21_0 := NB524_525.out
    have hns21_2 := NB526_525.out
    have hms21_0 := NB525_524.out
    have hms21_2 := NB525_526.out
    refine skip_ (w1 := ?_) (by rfl) rfl ?_ ?_
    rotate_left
    · go_simp
      rfl
    refine hK.out _ _ ⟨((cell_far (p := ⟨gb525, _, none⟩) NB524_525.out _).trans (((cell_far (p := ⟨gb525, _, none⟩) NB524_525.out _).trans (((cell_far (p := ⟨gb525, _, none⟩) NB524_525.out _).trans (((cell_far (p := ⟨gb525, _, none⟩) NB524_525.out _).trans (hHeld.1)))))))), ((cell_far (p := ⟨gb525, _, none⟩) NB524_525.out _).trans (((cell_far (p := ⟨gb525, _, none⟩) NB524_525.out _).trans (((cell_far (p := ⟨gb525, _, none⟩) NB524_525.out _).trans (((cell_far (p := ⟨gb525, _, none⟩) NB524_525.out _).trans (hHeld.2.1)))))))), ((cell_far (p := ⟨gb525, _, none⟩) NB524_525.out _).trans (((cell_far (p := ⟨gb525, _, none⟩) NB524_525.out _).trans (((cell_far (p := ⟨gb525, _, none⟩) NB524_525.out _).trans (((cell_far (p := ⟨gb525, _, none⟩) NB524_525.out _).trans (hHeld.2.2.1)))))))), ((cell_far (p := ⟨gb525, _, none⟩) NB524_525.out _).trans (((cell_far (p := ⟨gb525, _, none⟩) NB524_525.out _).trans (((cell_far (p := ⟨gb525, _, none⟩) NB524_525.out _).trans (((cell_far (p := ⟨gb525, _, none⟩) NB524_525.out _).trans (hHeld.2.2.2))))))))⟩ (fun hHeld => ?_)
    clear hK K
    refine one_ (i := 9) (N := none) (mb_ 10 1023) rfl rfl (one_of HT_.out (by kernel_rfl)) (by decide) (fun K hK => ?_)
    have hs22 : w14.cell? ⟨gb526, 0, none⟩ = some (.int .i64 0) := (blk_cell BK526.out 0).trans rfl
    have hfs22 := blk_frozen BK526.out 0
    have hns22_0 := NB524_526.out
    have hns22_1 := NB525_526.out
    have hms22_0 := NB526_524.out
    have hms22_1 := NB526_525.out
    have hs23 : w14.cell? ⟨gb526, 1, none⟩ = some (.int .u64 0) := (blk_cell BK526.out 1).trans rfl
    have hfs23 := blk_frozen BK526.out 1
    have hns23_0 := NB524_526.out
    have hns23_1 := NB525_526.out
    have hms23_0 := NB526_524.out
    have hms23_1 := NB526_525.out
    refine skip_ (w1 := ?_) (by rfl) rfl ?_ ?_
    rotate_left
    · go_simp
      rfl
    refine hK.out _ _ ⟨((cell_far (p := ⟨gb526, _, none⟩) NB524_526.out _).trans (((cell_far (p := ⟨gb526, _, none⟩) NB524_526.out _).trans (hHeld.1)))), ((cell_far (p := ⟨gb526, _, none⟩) NB524_526.out _).trans (((cell_far (p := ⟨gb526, _, none⟩) NB524_526.out _).trans (hHeld.2.1)))), ((cell_far (p := ⟨gb526, _, none⟩) NB524_526.out _).trans (((cell_far (p := ⟨gb526, _, none⟩) NB524_526.out _).trans (hHeld.2.2.1)))), ((cell_far (p := ⟨gb526, _, none⟩) NB524_526.out _).trans (((cell_far (p := ⟨gb526, _, none⟩) NB524_526.out _).trans (hHeld.2.2.2))))⟩ (fun hHeld => ?_)
    clear hK K
    refine done_ (done_of HT_.out (by kernel_rfl)) ?_
    try go_wp2
    refine bodyPost_ret (results_cc rfl _ _ gb525 gb526 29 34 #[.slice Ao15 t529.length co15, .slice Ao17 t532.length co17, .int .u64 t535, .slice Ao20 t536.length co20] #[.int .i64 t539, .int .u64 t540] (0, 0) (0, 0) _ _ rfl (kP_ BK525.out) Try.underlying29 rfl (by kernel_rfl) rfl (kP_ BK526.out) Try.underlying34 rfl (by kernel_rfl)) rfl ?_
    exact ⟨_, _, _, r3_, (vF_ HO531.out), (vF_ HO534.out), (vF_ HO538.out), beT_⟩
  replace c6 := Bool.eq_false_iff.mpr c6
  subst c6
  replace H := hN_ H
  simp only [Option.some.injEq, Prod.mk.injEq] at H
  obtain ⟨rfl, rfl, rfl, rfl, rfl, rfl⟩ := H
  go_enter Try.func22, Try.ntmps22
  go_wp2_with (first | ((with_reducible refine gate_dst (N := 4) rfl ?_); refine bE_ 4 #[.slice A0_0 l0_0.length c0_0, .slice A0_1 l0_1.length c0_1, .int .u64 a0_2, .slice A0_3 l0_3.length c0_3] 29 ?_; intro gb524 hg w24 hbox hb; have BK524 := Aside0.mk hbox; have GW524 := geT_ w.heap.size hg; have GE524 := geT_ w.heap.size hg; replace HO0_0 := vE_ HO0_0.out hg hb; replace HO0_1 := vE_ HO0_1.out hg hb; replace HO0_3 := vE_ HO0_3.out hg hb; replace HB := hB_ hb; clear hb hbox hg) | ((with_reducible refine gate_dst (N := 8) rfl ?_); refine bE_ 8 #[.slice none 0 0, .slice none 0 0, .int .u64 0, .slice none 0 0] 29 ?_; intro gb525 hg w25 hbox hb; have BK525 := Aside0.mk hbox; have GW525 := geT_ w.heap.size hg; have GE525 := geT_ w.heap.size hg; have NB524_525 := nlT_ BK524.out hg; have NB525_524 := ngT_ BK524.out hg; replace HO0_0 := vE_ HO0_0.out hg hb; replace HO0_1 := vE_ HO0_1.out hg hb; replace HO0_3 := vE_ HO0_3.out hg hb; replace BK524 := kB_ BK524 hb; replace HB := hB_ hb; clear hb hbox hg) | ((with_reducible refine gate_dst (N := 9) rfl ?_); refine bE_ 9 #[.int .i64 0, .int .u64 0] 34 ?_; intro gb526 hg w26 hbox hb; have BK526 := Aside0.mk hbox; have GW526 := geT_ w.heap.size hg; have GE526 := geT_ w.heap.size hg; have NB524_526 := nlT_ BK524.out hg; have NB526_524 := ngT_ BK524.out hg; have NB525_526 := nlT_ BK525.out hg; have NB526_525 := ngT_ BK525.out hg; replace HO0_0 := vE_ HO0_0.out hg hb; replace HO0_1 := vE_ HO0_1.out hg hb; replace HO0_3 := vE_ HO0_3.out hg hb; replace BK524 := kB_ BK524 hb; replace BK525 := kB_ BK525 hb; replace HB := hB_ hb; clear hb hbox hg) | ((with_reducible refine gate_callee (f := 52) rfl ?_); refine gL_ (some 11) Try.func52 #[.int .i64 a2] ?_; (with_reducible refine (ferryref05_sized.calls a2 false _ A5.out).mono ?_); rintro e w' ⟨rfl, ⟨nd, rfl⟩⟩; refine ⟨_, rfl, ?_⟩; (try (rw [drewN_self w26]; generalize hq_ : World.drewN w26 _ = w26; replace HO0_0 : Aside0 (Kd.V k83 83 w26 w.heap.size (fun k_ => ((P0_0_ k_ ∨ P0_1_ k_ ∨ P0_3_ k_) ∨ w.heap.size ≤ k_) ∧ k_ ≠ gb524 ∧ k_ ≠ gb525 ∧ k_ ≠ gb526) (.slice A0_0 l0_0.length c0_0) l0_0) := ⟨by rw [← hq_]; exact (vM_ HO0_0.out)⟩; replace HO0_1 : Aside0 (Kd.V k88 88 w26 w.heap.size (fun k_ => ((P0_0_ k_ ∨ P0_1_ k_ ∨ P0_3_ k_) ∨ w.heap.size ≤ k_) ∧ k_ ≠ gb524 ∧ k_ ≠ gb525 ∧ k_ ≠ gb526) (.slice A0_1 l0_1.length c0_1) l0_1) := ⟨by rw [← hq_]; exact (vM_ HO0_1.out)⟩; replace HO0_3 : Aside0 (Kd.V k41 41 w26 w.heap.size (fun k_ => ((P0_0_ k_ ∨ P0_1_ k_ ∨ P0_3_ k_) ∨ w.heap.size ≤ k_) ∧ k_ ≠ gb524 ∧ k_ ≠ gb525 ∧ k_ ≠ gb526) (.slice A0_3 l0_3.length c0_3) l0_3) := ⟨by rw [← hq_]; exact (vM_ HO0_3.out)⟩; replace BK524 : Aside0 (w26.heap[gb524]? = some (.cells #[.slice A0_0 l0_0.length c0_0, .slice A0_1 l0_1.length c0_1, .int .u64 a0_2, .slice A0_3 l0_3.length c0_3] 29 (0, 0))) := ⟨by rw [← hq_]; exact (bT_ BK524.out)⟩; replace BK525 : Aside0 (w26.heap[gb525]? = some (.cells #[.slice none 0 0, .slice none 0 0, .int .u64 0, .slice none 0 0] 29 (0, 0))) := ⟨by rw [← hq_]; exact (bT_ BK525.out)⟩; replace BK526 : Aside0 (w26.heap[gb526]? = some (.cells #[.int .i64 0, .int .u64 0] 34 (0, 0))) := ⟨by rw [← hq_]; exact (bT_ BK526.out)⟩; replace HB : Aside0 (Below w.heap.size w w26) := ⟨by rw [← hq_]; exact beT_⟩; clear hq_)); have hnb27 := NB524_525.out; have hnc27 := NB525_524.out; have hnb28 := NB524_526.out; have hnc28 := NB526_524.out; obtain ⟨hcz29_0, hcz29_1, hcz29_2, hcz29_3, hfz29_0, hfz29_1, hfz29_2, hfz29_3⟩ := b4_ BK524.out; have hnb30 := NB525_526.out; have hnc30 := NB526_525.out; obtain ⟨hcz31_0, hcz31_1, hcz31_2, hcz31_3, hfz31_0, hfz31_1, hfz31_2, hfz31_3⟩ := b4_ BK525.out; obtain ⟨hcz32_0, hcz32_1, hfz32_0, hfz32_1⟩ := b2_ BK526.out))
  refine bodyPost_ret (results_cc rfl _ _ gb525 gb526 29 34 #[.slice A0_0 l0_0.length c0_0, .slice A0_1 l0_1.length c0_1, .int .u64 a0_2, .slice A0_3 l0_3.length c0_3] #[.int .i64 0, .int .u64 0] (0, 0) (0, 0) _ _ rfl (kP_ BK525.out) Try.underlying29 rfl (by kernel_rfl) rfl (kP_ BK526.out) Try.underlying34 rfl (by kernel_rfl)) rfl ?_
  exact ⟨_, _, _, r3_, (vF_ HO0_0.out), (vF_ HO0_1.out), (vF_ HO0_3.out), beT_⟩

end Go.Proofs.Ytgkjdpdmmlalcaa.F
end
