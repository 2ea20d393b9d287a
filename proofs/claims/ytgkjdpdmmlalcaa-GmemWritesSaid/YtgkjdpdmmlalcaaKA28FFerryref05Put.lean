import Derived.Test.YtgkjdpdmmlalcaaKZF0
import Derived.Test.YtgkjdpdmmlalcaaKA0
import Derived.Test.YtgkjdpdmmlalcaaKA5
import Derived.Test.YtgkjdpdmmlalcaaKA11FFerryref03Store
import Derived.Test.YtgkjdpdmmlalcaaKA18
import Derived.Test.YtgkjdpdmmlalcaaKA22
section
namespace Go.Proofs.Ytgkjdpdmmlalcaa.F
open Go.RowKit Go.Proofs.YtgkjdpdmmlalcaaW.PrintWords Go.Proofs.YtgkjdpdmmlalcaaW.PrintLast Go.Proofs.YtgkjdpdmmlalcaaW.PrintMore
attribute [local go_sem] max2_int min2_int max_two min_two max_three min_three max_four min_four
attribute [local go_sem] cell_twice
set_option linter.unusedVariables false
set_option linter.unusedSimpArgs false

def ferryref05_put.l0 : Nat → ByteArray → Int → List (S83) → List (S88) → Int → List (S41) → Int → Int → Option ((List (S83)) × (List (S88)) × Int × (List (S41)) × Int × Int)
  | 0, _, _, _, _, _, _, _, _ => none
  | k + 1, x2, x11, x460000, x460001, x460002, x460003, x465000, x465001 => if x2.toList = ([] : List UInt8) then (some (x460000, x460001, x460002, x460003, x465000, x465001)) else (if 0 ≤ (mn (wrap64 (8 - (wrap64 (Int.tmod x11 8)))) (x2.size : Int)) then (if (mn (wrap64 (8 - (wrap64 (Int.tmod x11 8)))) (x2.size : Int)) ≤ (x2.size : Int) then ((ferryref01_Le.f k (x2.extract 0 ((mn (wrap64 (8 - (wrap64 (Int.tmod x11 8)))) (x2.size : Int)) : Int).toNat)).bind fun t466 => ((ferryref03_Store.f k x460000 x460001 x11 (mn (wrap64 (8 - (wrap64 (Int.tmod x11 8)))) (x2.size : Int)) t466).bind fun bt467 => (ferryref05_put.l0 k (x2.extract ((mn (wrap64 (8 - (wrap64 (Int.tmod x11 8)))) (x2.size : Int)) : Int).toNat x2.size) (IntKind.u64.wrap (x11 + (IntKind.u64.wrap (mn (wrap64 (8 - (wrap64 (Int.tmod x11 8)))) (x2.size : Int))))) bt467.1 bt467.2.1 x460002 x460003 x465000 x465001))) else (none)) else (none))
def ferryref05_put.f (k : Nat) (l0_0 : List (S83)) (l0_1 : List (S88)) (a0_2 : Int) (l0_3 : List (S41)) (a1 : Int) (a2 : ByteArray) (a3 : Int) : Option ((List (S83)) × (List (S88)) × Int × (List (S41)) × Int × Int) := if (a2.size : Int) > 65536 then (some (l0_0, l0_1, a0_2, l0_3, 1, 0)) else ((ferryref05_ask.f k l0_0 l0_1 a0_2 l0_3 a1 (a2.size : Int) a3).bind fun bt462 => (if bt462.1 = 0 then ((ferryref04_Place.f l0_0 l0_1 a0_2 l0_3 a1).bind fun t465 => (ferryref05_put.l0 k a2 t465 l0_0 l0_1 a0_2 l0_3 bt462.1 bt462.2)) else (some (l0_0, l0_1, a0_2, l0_3, bt462.1, bt462.2))))
def ferryref05_put.T9 : Bool × List (List Nat × List Nat) := (true, [([], []), ([0], [0]), ([], []), ([], []), ([], []), ([], []), ([4, 5], [4, 5]), ([6], [6]), ([1, 2, 3, 7, 7], [1, 2, 3, 7]), ([8], [8]), ([9], [9]), ([9], [9]), ([0, 1, 2, 3, 4, 5, 6, 7, 8, 9, 10], []), ([12, 10, 8, 0, 1, 2, 3, 4, 5, 6, 7, 8, 9, 10], [10, 12])])
def ferryref05_put.B9 : List Nat := [0, 1, 0, 0, 0, 0, 48, 112, 255, 511, 1023, 1023, 2047, 6143]
theorem ferryref05_put.tab9 : rtab .any (opsOf Try.f50 9) = ferryref05_put.T9 := by kernel_rfl
theorem ferryref05_put.bits9 : waitsOk ferryref05_put.T9.2 ferryref05_put.B9 = true := by kernel_rfl
set_option maxHeartbeats 8000000 in
set_option maxRecDepth 100000 in
theorem ferryref05_put.calls (k : Nat) (P0_0_ : Nat → Prop) (A0_0 : Option Addr) (c0_0 : Nat) (l0_0 : List (S83)) (P0_1_ : Nat → Prop) (A0_1 : Option Addr) (c0_1 : Nat) (l0_1 : List (S88)) (a0_2 : Int) (P0_3_ : Nat → Prop) (A0_3 : Option Addr) (c0_3 : Nat) (l0_3 : List (S41)) (a1 : Int) (a2 : ByteArray) (a3 : Int) (r1 : List (S83)) (r2 : List (S88)) (r3 : Int) (r4 : List (S41)) (r5 : Int) (r6 : Int) (w : World) (hs0_0 : Kd.V k83 83 w w.heap.size (fun k_ => P0_0_ k_) (.slice A0_0 l0_0.length c0_0) l0_0) (hs0_1 : Kd.V k88 88 w w.heap.size (fun k_ => P0_1_ k_) (.slice A0_1 l0_1.length c0_1) l0_1) (hs0_3 : Kd.V k41 41 w w.heap.size (fun k_ => P0_3_ k_) (.slice A0_3 l0_3.length c0_3) l0_3) (h : ferryref05_put.f k l0_0 l0_1 a0_2 l0_3 a1 a2 a3 = some (r1, r2, r3, r4, r5, r6)) :
    Calls Try.prog 50 #[.agg #[.slice A0_0 l0_0.length c0_0, .slice A0_1 l0_1.length c0_1, .int .u64 a0_2, .slice A0_3 l0_3.length c0_3], .int .u32 a1, .string a2, .int .i64 a3] w fun e w' => ∃ v0_ v1_ v3_ : Value, e = .returned (.tuple #[.agg #[v0_, v1_, .int .u64 r3, v3_], .agg #[.int .i64 r5, .int .u64 r6]]) ∧ Kd.V k83 83 w' w.heap.size (fun k_ => ((P0_0_ k_ ∨ P0_1_ k_ ∨ P0_3_ k_) ∨ w.heap.size ≤ k_)) v0_ r1 ∧ Kd.V k88 88 w' w.heap.size (fun k_ => ((P0_0_ k_ ∨ P0_1_ k_ ∨ P0_3_ k_) ∨ w.heap.size ≤ k_)) v1_ r2 ∧ Kd.V k41 41 w' w.heap.size (fun k_ => ((P0_0_ k_ ∨ P0_1_ k_ ∨ P0_3_ k_) ∨ w.heap.size ≤ k_)) v3_ r4 ∧ Below w.heap.size w w' := by
  have hu29 := Try.underlying29
  have hu34 := Try.underlying34
  have hu25 := Try.underlying25
  have HO0_0 := Aside0.mk (show Kd.V k83 83 w w.heap.size (fun k_ => ((P0_0_ k_ ∨ P0_1_ k_ ∨ P0_3_ k_) ∨ w.heap.size ≤ k_)) (.slice A0_0 l0_0.length c0_0) l0_0 from Kd.V_mono hs0_0 (fun k_ hk => .inl (.inl hk)))
  have HO0_1 := Aside0.mk (show Kd.V k88 88 w w.heap.size (fun k_ => ((P0_0_ k_ ∨ P0_1_ k_ ∨ P0_3_ k_) ∨ w.heap.size ≤ k_)) (.slice A0_1 l0_1.length c0_1) l0_1 from Kd.V_mono hs0_1 (fun k_ hk => .inl (.inr (.inl hk))))
  have HO0_3 := Aside0.mk (show Kd.V k41 41 w w.heap.size (fun k_ => ((P0_0_ k_ ∨ P0_1_ k_ ∨ P0_3_ k_) ∨ w.heap.size ≤ k_)) (.slice A0_3 l0_3.length c0_3) l0_3 from Kd.V_mono hs0_3 (fun k_ hk => .inl (.inr (.inr hk))))
  have HB := Aside0.mk (Below.refl w.heap.size w)
  have H : (if (a2.size : Int) > 65536 then (some (l0_0, l0_1, a0_2, l0_3, 1, 0)) else ((ferryref05_ask.f k l0_0 l0_1 a0_2 l0_3 a1 (a2.size : Int) a3).bind fun bt462 => (if bt462.1 = 0 then ((ferryref04_Place.f l0_0 l0_1 a0_2 l0_3 a1).bind fun t465 => (ferryref05_put.l0 k a2 t465 l0_0 l0_1 a0_2 l0_3 bt462.1 bt462.2)) else (some (l0_0, l0_1, a0_2, l0_3, bt462.1, bt462.2))))) = some (r1, r2, r3, r4, r5, r6) := h
  clear h
  by_cases c5 : (a2.size : Int) > 65536
  · rw [if_pos c5] at H
    have c5b0 : decide (65536 < (a2.size : Int)) = true := decide_eq_true c5
    have c5b1 : decide (65536 < a2.size) = true := decide_eq_true (by omega)
    clear c5
    simp only [Option.some.injEq, Prod.mk.injEq] at H
    obtain ⟨rfl, rfl, rfl, rfl, rfl, rfl⟩ := H
    go_enter Try.func50, Try.ntmps50
    go_wp2_with (first | ((with_reducible refine gate_dst (N := 4) rfl ?_); refine bE_ 4 #[.slice A0_0 l0_0.length c0_0, .slice A0_1 l0_1.length c0_1, .int .u64 a0_2, .slice A0_3 l0_3.length c0_3] 29 ?_; intro gb459 hg w6 hbox hb; have BK459 := Aside0.mk hbox; have GW459 := geT_ w.heap.size hg; have GE459 := geT_ w.heap.size hg; replace HO0_0 := vE_ HO0_0.out hg hb; replace HO0_1 := vE_ HO0_1.out hg hb; replace HO0_3 := vE_ HO0_3.out hg hb; replace HB := hB_ hb; clear hb hbox hg) | ((with_reducible refine gate_dst (N := 8) rfl ?_); refine bE_ 8 #[.slice none 0 0, .slice none 0 0, .int .u64 0, .slice none 0 0] 29 ?_; intro gb460 hg w7 hbox hb; have BK460 := Aside0.mk hbox; have GW460 := geT_ w.heap.size hg; have GE460 := geT_ w.heap.size hg; have NB459_460 := nlT_ BK459.out hg; have NB460_459 := ngT_ BK459.out hg; replace HO0_0 := vE_ HO0_0.out hg hb; replace HO0_1 := vE_ HO0_1.out hg hb; replace HO0_3 := vE_ HO0_3.out hg hb; replace BK459 := kB_ BK459 hb; replace HB := hB_ hb; clear hb hbox hg) | ((with_reducible refine gate_dst (N := 9) rfl ?_); refine bE_ 9 #[.int .i64 0, .int .u64 0] 34 ?_; intro gb461 hg w8 hbox hb; have BK461 := Aside0.mk hbox; have GW461 := geT_ w.heap.size hg; have GE461 := geT_ w.heap.size hg; have NB459_461 := nlT_ BK459.out hg; have NB461_459 := ngT_ BK459.out hg; have NB460_461 := nlT_ BK460.out hg; have NB461_460 := ngT_ BK460.out hg; replace HO0_0 := vE_ HO0_0.out hg hb; replace HO0_1 := vE_ HO0_1.out hg hb; replace HO0_3 := vE_ HO0_3.out hg hb; replace BK459 := kB_ BK459 hb; replace BK460 := kB_ BK460 hb; replace HB := hB_ hb; clear hb hbox hg; have hnb9 := NB459_460.out; have hnc9 := NB460_459.out; have hnb10 := NB459_461.out; have hnc10 := NB461_459.out; obtain ⟨hcz11_0, hcz11_1, hcz11_2, hcz11_3, hfz11_0, hfz11_1, hfz11_2, hfz11_3⟩ := b4_ BK459.out; have hnb12 := NB460_461.out; have hnc12 := NB461_460.out; obtain ⟨hcz13_0, hcz13_1, hcz13_2, hcz13_3, hfz13_0, hfz13_1, hfz13_2, hfz13_3⟩ := b4_ BK460.out; obtain ⟨hcz14_0, hcz14_1, hfz14_0, hfz14_1⟩ := b2_ BK461.out))
    refine bodyPost_ret (results_cc rfl _ _ gb460 gb461 29 34 #[.slice A0_0 l0_0.length c0_0, .slice A0_1 l0_1.length c0_1, .int .u64 a0_2, .slice A0_3 l0_3.length c0_3] #[.int .i64 1, .int .u64 0] (0, 0) (0, 0) _ _ rfl (kP_ BK460.out) Try.underlying29 rfl (by kernel_rfl) rfl (kP_ BK461.out) Try.underlying34 rfl (by kernel_rfl)) rfl ?_
    exact ⟨_, _, _, r3_, (vF_ HO0_0.out), (vF_ HO0_1.out), (vF_ HO0_3.out), beT_⟩
  rw [if_neg c5] at H
  have c5b0 : decide (65536 < (a2.size : Int)) = false := decide_eq_false c5
  have c5b1 : decide (65536 < a2.size) = false := decide_eq_false (by omega)
  clear c5
  replace H := Option.bind_eq_some_iff.mp H
  obtain ⟨⟨t462, t463⟩, A150, H⟩ := H
  have A15 := Aside0.mk A150
  clear A150
  by_cases c16 : t462 = 0
  · rw [if_pos c16] at H
    have c16b0 : (t462 == 0) = true := beq_iff_eq.mpr c16
    have c16b1 : (t462 != 0) = false := bne_eq_false_iff_eq.mpr c16
    clear c16
    replace H := Option.bind_eq_some_iff.mp H
    obtain ⟨t465, A170, H⟩ := H
    have A17 := Aside0.mk A170
    clear A170
    have H' := Aside0.mk H
    clear H
    go_enter Try.func50, Try.ntmps50
    go_wp2_with (first | ((with_reducible refine gate_dst (N := 4) rfl ?_); refine bE_ 4 #[.slice A0_0 l0_0.length c0_0, .slice A0_1 l0_1.length c0_1, .int .u64 a0_2, .slice A0_3 l0_3.length c0_3] 29 ?_; intro gb459 hg w18 hbox hb; have BK459 := Aside0.mk hbox; have GW459 := geT_ w.heap.size hg; have GE459 := geT_ w.heap.size hg; replace HO0_0 := vE_ HO0_0.out hg hb; replace HO0_1 := vE_ HO0_1.out hg hb; replace HO0_3 := vE_ HO0_3.out hg hb; replace HB := hB_ hb; clear hb hbox hg) | ((with_reducible refine gate_dst (N := 8) rfl ?_); refine bE_ 8 #[.slice none 0 0, .slice none 0 0, .int .u64 0, .slice none 0 0] 29 ?_; intro gb460 hg w19 hbox hb; have BK460 := Aside0.mk hbox; have GW460 := geT_ w.heap.size hg; have GE460 := geT_ w.heap.size hg; have NB459_460 := nlT_ BK459.out hg; have NB460_459 := ngT_ BK459.out hg; replace HO0_0 := vE_ HO0_0.out hg hb; replace HO0_1 := vE_ HO0_1.out hg hb; replace HO0_3 := vE_ HO0_3.out hg hb; replace BK459 := kB_ BK459 hb; replace HB := hB_ hb; clear hb hbox hg) | ((with_reducible refine gate_dst (N := 9) rfl ?_); refine bE_ 9 #[.int .i64 0, .int .u64 0] 34 ?_; intro gb461 hg w20 hbox hb; have BK461 := Aside0.mk hbox; have GW461 := geT_ w.heap.size hg; have GE461 := geT_ w.heap.size hg; have NB459_461 := nlT_ BK459.out hg; have NB461_459 := ngT_ BK459.out hg; have NB460_461 := nlT_ BK460.out hg; have NB461_460 := ngT_ BK460.out hg; replace HO0_0 := vE_ HO0_0.out hg hb; replace HO0_1 := vE_ HO0_1.out hg hb; replace HO0_3 := vE_ HO0_3.out hg hb; replace BK459 := kB_ BK459 hb; replace BK460 := kB_ BK460 hb; replace HB := hB_ hb; clear hb hbox hg; have hnb21 := NB459_460.out; have hnc21 := NB460_459.out; have hnb22 := NB459_461.out; have hnc22 := NB461_459.out; obtain ⟨hcz23_0, hcz23_1, hcz23_2, hcz23_3, hfz23_0, hfz23_1, hfz23_2, hfz23_3⟩ := b4_ BK459.out) | ((with_reducible refine gate_callee (f := 54) rfl ?_); refine gL_ (some 23) Try.func54 #[.agg #[.slice A0_0 l0_0.length c0_0, .slice A0_1 l0_1.length c0_1, .int .u64 a0_2, .slice A0_3 l0_3.length c0_3], .int .u32 a1, .int .i64 (a2.size : Int), .int .i64 a3] ?_; (with_reducible refine (ferryref05_ask.calls k _ _ l0_0 _ _ l0_1 a0_2 _ _ l0_3 a1 (a2.size : Int) a3 t462 t463 _ ?side1 ?side2 ?side3 ?side4 ?side5 ?side6 A15.out).mono ?_); (case side1 => exact cT_ (Kd.V_reads' HO0_0.out).2.2); (case side2 => exact (Kd.V_reads' HO0_0.out).2.1); (case side3 => exact cT_ (Kd.V_reads' HO0_1.out).2.2); (case side4 => exact (Kd.V_reads' HO0_1.out).2.1); (case side5 => exact cT_ (Kd.V_reads' HO0_3.out).2.2); (case side6 => exact (Kd.V_reads' HO0_3.out).2.1); rintro e w24 ⟨rfl, hb⟩; refine ⟨_, rfl, ?_⟩; replace HO0_0 := vB_ HO0_0.out hb; replace HO0_1 := vB_ HO0_1.out hb; replace HO0_3 := vB_ HO0_3.out hb; replace BK459 := kB_ BK459 hb; replace BK460 := kB_ BK460 hb; replace BK461 := kB_ BK461 hb; replace HB := hB_ hb; (try clear hb)) | ((with_reducible refine gate_dst (N := 10) rfl ?_); refine bE_ 10 #[.int .i64 0, .int .u64 0] 34 ?_; intro gb464 hg w25 hbox hb; have BK464 := Aside0.mk hbox; have GW464 := geT_ w.heap.size hg; have GE464 := geT_ w.heap.size hg; have NB459_464 := nlT_ BK459.out hg; have NB464_459 := ngT_ BK459.out hg; have NB460_464 := nlT_ BK460.out hg; have NB464_460 := ngT_ BK460.out hg; have NB461_464 := nlT_ BK461.out hg; have NB464_461 := ngT_ BK461.out hg; replace HO0_0 := vE_ HO0_0.out hg hb; replace HO0_1 := vE_ HO0_1.out hg hb; replace HO0_3 := vE_ HO0_3.out hg hb; replace BK459 := kB_ BK459 hb; replace BK460 := kB_ BK460 hb; replace BK461 := kB_ BK461 hb; replace HB := hB_ hb; clear hb hbox hg; have hnb26 := NB464_459.out; have hnc26 := NB459_464.out; have hnb27 := NB464_460.out; have hnc27 := NB460_464.out; have hnb28 := NB464_461.out; have hnc28 := NB461_464.out; obtain ⟨hcz29_0, hcz29_1, hfz29_0, hfz29_1⟩ := b2_ BK464.out; obtain ⟨hcz30_0, hcz30_1, hcz30_2, hcz30_3, hfz30_0, hfz30_1, hfz30_2, hfz30_3⟩ := b4_ BK459.out) | ((with_reducible refine gate_callee (f := 14) rfl ?_); refine gL_ (some 31) Try.func14 #[.agg #[.slice A0_0 l0_0.length c0_0, .slice A0_1 l0_1.length c0_1, .int .u64 a0_2, .slice A0_3 l0_3.length c0_3], .int .u32 a1] ?_; (with_reducible refine (ferryref04_Place.calls _ _ l0_0 _ _ l0_1 a0_2 _ _ l0_3 a1 t465 _ ?side1 ?side2 ?side3 ?side4 ?side5 ?side6 A17.out).mono ?_); (case side1 => refine (Kd.V_reads' (e := 83) (base := w.heap.size) (ok := fun _ => True) (n := l0_0.length) (c := c0_0) ?_).2.2; exact (by (with_reducible repeat (fail)); exact (Kd.V_mono (Kd.V_far (p := ⟨gb464, 1, none⟩) (Kd.V_far (p := ⟨gb464, 0, none⟩) (Kd.V_mono HO0_0.out (fun k_ hk => (⟨hk, by exact hk.2⟩ : _ ∧ k_ ≠ gb464))) (fun _ hk => by exact hk.2) (.int .i64 t462)) (fun _ hk => by exact hk.2) (.int .u64 t463)) (fun _ _ => trivial)))); (case side2 => exact (Kd.V_reads' HO0_0.out).2.1); (case side3 => refine (Kd.V_reads' (e := 88) (base := w.heap.size) (ok := fun _ => True) (n := l0_1.length) (c := c0_1) ?_).2.2; exact (by (with_reducible repeat (fail)); exact (Kd.V_mono (Kd.V_far (p := ⟨gb464, 1, none⟩) (Kd.V_far (p := ⟨gb464, 0, none⟩) (Kd.V_mono HO0_1.out (fun k_ hk => (⟨hk, by exact hk.2⟩ : _ ∧ k_ ≠ gb464))) (fun _ hk => by exact hk.2) (.int .i64 t462)) (fun _ hk => by exact hk.2) (.int .u64 t463)) (fun _ _ => trivial)))); (case side4 => exact (Kd.V_reads' HO0_1.out).2.1); (case side5 => refine (Kd.V_reads' (e := 41) (base := w.heap.size) (ok := fun _ => True) (n := l0_3.length) (c := c0_3) ?_).2.2; exact (by (with_reducible repeat (fail)); exact (Kd.V_mono (Kd.V_far (p := ⟨gb464, 1, none⟩) (Kd.V_far (p := ⟨gb464, 0, none⟩) (Kd.V_mono HO0_3.out (fun k_ hk => (⟨hk, by exact hk.2⟩ : _ ∧ k_ ≠ gb464))) (fun _ hk => by exact hk.2) (.int .i64 t462)) (fun _ hk => by exact hk.2) (.int .u64 t463)) (fun _ _ => trivial)))); (case side6 => exact (Kd.V_reads' HO0_3.out).2.1); rintro e w31 ⟨rfl, hb⟩; refine ⟨_, rfl, ?_⟩; replace HO0_0 := Aside0.mk (Kd.V_below (by (with_reducible repeat (fail)); exact (Kd.V_mono (Kd.V_far (p := ⟨gb464, 1, none⟩) (Kd.V_far (p := ⟨gb464, 0, none⟩) (Kd.V_mono HO0_0.out (fun k_ hk => (⟨hk, by exact hk.2⟩ : _ ∧ k_ ≠ gb464))) (fun _ hk => by exact hk.2) (.int .i64 t462)) (fun _ hk => by exact hk.2) (.int .u64 t463)) (fun _ h_ => h_.1))) hb); replace HO0_1 := Aside0.mk (Kd.V_below (by (with_reducible repeat (fail)); exact (Kd.V_mono (Kd.V_far (p := ⟨gb464, 1, none⟩) (Kd.V_far (p := ⟨gb464, 0, none⟩) (Kd.V_mono HO0_1.out (fun k_ hk => (⟨hk, by exact hk.2⟩ : _ ∧ k_ ≠ gb464))) (fun _ hk => by exact hk.2) (.int .i64 t462)) (fun _ hk => by exact hk.2) (.int .u64 t463)) (fun _ h_ => h_.1))) hb); replace HO0_3 := Aside0.mk (Kd.V_below (by (with_reducible repeat (fail)); exact (Kd.V_mono (Kd.V_far (p := ⟨gb464, 1, none⟩) (Kd.V_far (p := ⟨gb464, 0, none⟩) (Kd.V_mono HO0_3.out (fun k_ hk => (⟨hk, by exact hk.2⟩ : _ ∧ k_ ≠ gb464))) (fun _ hk => by exact hk.2) (.int .i64 t462)) (fun _ hk => by exact hk.2) (.int .u64 t463)) (fun _ h_ => h_.1))) hb); replace BK459 := kB_ BK459 hb; replace BK460 := kB_ BK460 hb; replace BK461 := kB_ BK461 hb; replace BK464 := Aside0.mk (blk_below (g := gb464) (o := .cells #[.int .i64 t462, .int .u64 t463] 34 (0, 0)) (kP_ BK464.out) hb); replace HB := hB_ hb; (try clear hb)))
    go_loopg [2, 11] k (fun kq v2 v11 w' => ∃ (x2_1 : ByteArray) (x11_1 : Int) (x460000_1 : List (S83)) (x460001_1 : List (S88)) (u460000 : Value) (u460001 : Value), v2 = .string x2_1 ∧ v11 = .int .u64 x11_1 ∧ Aside0 (ferryref05_put.l0 kq x2_1 x11_1 x460000_1 x460001_1 a0_2 l0_3 t462 t463 = some (r1, r2, r3, r4, r5, r6)) ∧ Aside0 (kq ≤ k) ∧ Aside0 (Kd.V k83 83 w' w.heap.size (fun k_ => ((P0_0_ k_ ∨ P0_1_ k_ ∨ P0_3_ k_) ∨ w.heap.size ≤ k_) ∧ k_ ≠ gb459 ∧ k_ ≠ gb460 ∧ k_ ≠ gb461 ∧ k_ ≠ gb464) u460000 x460000_1) ∧ Aside0 (Kd.V k88 88 w' w.heap.size (fun k_ => ((P0_0_ k_ ∨ P0_1_ k_ ∨ P0_3_ k_) ∨ w.heap.size ≤ k_) ∧ k_ ≠ gb459 ∧ k_ ≠ gb460 ∧ k_ ≠ gb461 ∧ k_ ≠ gb464) u460001 x460001_1) ∧ Aside0 (Kd.V k41 41 w' w.heap.size (fun k_ => ((P0_0_ k_ ∨ P0_1_ k_ ∨ P0_3_ k_) ∨ w.heap.size ≤ k_) ∧ k_ ≠ gb459 ∧ k_ ≠ gb460 ∧ k_ ≠ gb461 ∧ k_ ≠ gb464) (.slice A0_3 l0_3.length c0_3) l0_3) ∧ Aside0 (w'.heap[gb459]? = some (.cells #[u460000, u460001, .int .u64 a0_2, (.slice A0_3 l0_3.length c0_3)] 29 (0, 0))) ∧ Aside0 (w'.heap[gb460]? = some (.cells #[(.slice none 0 0), (.slice none 0 0), .int .u64 0, (.slice none 0 0)] 29 (0, 0))) ∧ Aside0 (w'.heap[gb461]? = some (.cells #[.int .i64 0, .int .u64 0] 34 (0, 0))) ∧ Aside0 (w'.heap[gb464]? = some (.cells #[.int .i64 t462, .int .u64 t463] 34 (0, 0))) ∧ Aside0 (Below w.heap.size w w'))
    case atStart => exact ⟨(a2), (t465), (l0_0), (l0_1), (.slice A0_0 l0_0.length c0_0), (.slice A0_1 l0_1.length c0_1), r1_, r1_, H', ⟨Nat.le_refl _⟩, ⟨vM_ HO0_0.out⟩, ⟨vM_ HO0_1.out⟩, ⟨vM_ HO0_3.out⟩, ⟨bT_ BK459.out⟩, ⟨bT_ BK460.out⟩, ⟨bT_ BK461.out⟩, ⟨bT_ BK464.out⟩, ⟨beT_⟩⟩
    case round =>
      clear H'
      try clear c5b0
      try clear c5b1
      try clear c16b0
      try clear c16b1
      try clear hcz23_0
      try clear hcz23_1
      try clear hcz23_2
      try clear hcz23_3
      try clear hcz29_0
      try clear hcz29_1
      try clear hcz30_0
      try clear hcz30_1
      try clear hcz30_2
      try clear hcz30_3
      try clear hfz23_0
      try clear hfz23_1
      try clear hfz23_2
      try clear hfz23_3
      try clear hfz29_0
      try clear hfz29_1
      try clear hfz30_0
      try clear hfz30_1
      try clear hfz30_2
      try clear hfz30_3
      obtain ⟨x2_1, x11_1, x460000_1, x460001_1, u460000, u460001, rfl, rfl, HA, HK1, HO_460000, HO_460001, HO_460003, BK459, BK460, BK461, BK464, HB⟩ := hrel
      cases gk with
      | zero => exact absurd HA.out (by simp [ferryref05_put.l0])
      | succ k1 =>
        have H := HA.out
        clear HA
        simp only [ferryref05_put.l0] at H
        by_cases c32 : x2_1.toList = ([] : List UInt8)
        · rw [if_pos c32] at H
          have c32b0 : (x2_1.toList == ([] : List UInt8)) = true := beq_iff_eq.mpr c32
          have c32b1 : (x2_1.toList != ([] : List UInt8)) = false := bne_eq_false_iff_eq.mpr c32
          clear c32
          simp only [Option.some.injEq, Prod.mk.injEq] at H
          obtain ⟨rfl, rfl, rfl, rfl, rfl, rfl⟩ := H
          try go_wp2
          replace HO_460000 := Aside0.mk (Kd.V_drew HO_460000.out)
          replace HO_460001 := Aside0.mk (Kd.V_drew HO_460001.out)
          replace HO_460003 := Aside0.mk (Kd.V_drew HO_460003.out)
          replace BK459 := Aside0.mk (blk_drew BK459.out)
          replace BK460 := Aside0.mk (blk_drew BK460.out)
          replace BK461 := Aside0.mk (blk_drew BK461.out)
          replace BK464 := Aside0.mk (blk_drew BK464.out)
          replace HB := Aside0.mk (below_drew1 HB.out)
          obtain ⟨Ao34, co34, eo34⟩ := Kd.V_slice HO_460000.out
          (subst eo34)
          obtain ⟨Ao36, co36, eo36⟩ := Kd.V_slice HO_460001.out
          (subst eo36)
          refine start_ (n := 4) (S := fun w' => w'.cell? ⟨gb459, 0, none⟩ = some (.slice Ao34 x460000_1.length co34) ∧ w'.cell? ⟨gb459, 1, none⟩ = some (.slice Ao36 x460001_1.length co36) ∧ w'.cell? ⟨gb459, 2, none⟩ = some (.int .u64 a0_2) ∧ w'.cell? ⟨gb459, 3, none⟩ = some (.slice A0_3 l0_3.length c0_3) ∧ w'.cell? ⟨gb464, 0, none⟩ = some (.int .i64 t462) ∧ w'.cell? ⟨gb464, 1, none⟩ = some (.int .u64 t463)) (ds := []) (mb_ 4 0) (by kernel_rfl) rfl rfl ⟨(blk_cell BK459.out 0).trans rfl, (blk_cell BK459.out 1).trans rfl, (blk_cell BK459.out 2).trans rfl, (blk_cell BK459.out 3).trans rfl, (blk_cell BK464.out 0).trans rfl, (blk_cell BK464.out 1).trans rfl⟩ (fun hHeld => ?_)
          generalize wr.drew = w33 at HO_460000 HO_460001 HO_460003 BK459 BK460 BK461 BK464 HB hHeld ⊢
          refine take_ (i := 0) (N := some 61) (v := ?_) (a' := ?_) (mb_ 4 1) rfl rfl (by kernel_rfl) (fun _ _ _ h => h) (Or.inl ⟨by rfl, ?_⟩) hHeld ?_ ?_
          rotate_left
          · rintro w' ⟨s0, s1, s2, s3, s4, s5⟩
            go_simp
            with_reducible rfl
          rotate_left
          · simp only [Act.put, List.setIfInBounds_toArray, List.set_cons_zero, List.set_cons_succ, i64_w, i32_w]
            rfl
          refine take_ (i := 1) (N := some 62) (v := ?_) (a' := ?_) (mb_ 4 3) rfl rfl (by kernel_rfl) (fun _ _ _ h => h) (Or.inl ⟨by rfl, ?_⟩) hHeld ?_ ?_
          rotate_left
          · rintro w' ⟨s0, s1, s2, s3, s4, s5⟩
            go_simp
            with_reducible rfl
          rotate_left
          · simp only [Act.put, List.setIfInBounds_toArray, List.set_cons_zero, List.set_cons_succ, i64_w, i32_w]
            rfl
          refine one_ (i := 2) (N := none) (mb_ 4 7) rfl rfl (by kernel_rfl) (by decide) (fun K hK => ?_)
          have hs35 : w33.cell? ⟨gb460, 0, none⟩ = some (.slice none 0 0) := (blk_cell BK460.out 0).trans rfl
          have hfs35 := blk_frozen BK460.out 0
          have hns35_0 := NB459_460.out
          have hns35_2 := NB461_460.out
          have hns35_3 := NB464_460.out
          have hms35_0 := NB460_459.out
          have hms35_2 := NB460_461.out
          have hms35_3 := NB460_464.out
          have hs37 : w33.cell? ⟨gb460, 1, none⟩ = some (.slice none 0 0) := (blk_cell BK460.out 1).trans rfl
          have hfs37 := blk_frozen BK460.out 1
          have hns37_0 := NB459_460.out
          have hns37_2 := NB461_460.out
          have hns37_3 := NB464_460.out
          have hms37_0 := NB460_459.out
          have hms37_2 := NB460_461.out
          have hms37_3 := NB460_464.out
          have hs38 : w33.cell? ⟨gb460, 2, none⟩ = some (.int .u64 0) := (blk_cell BK460.out 2).trans rfl
          have hfs38 := blk_frozen BK460.out 2
          have hns38_0 := NB459_460.out
          have hns38_2 := NB461_460.out
          have hns38_3 := NB464_460.out
          have hms38_0 := NB460_459.out
          have hms38_2 := NB460_461.out
          have hms38_3 := NB460_464.out
          have hs39 : w33.cell? ⟨gb460, 3, none⟩ = some (.slice none 0 0) := (blk_cell BK460.out 3).trans rfl
          have hfs39 := blk_frozen BK460.out 3
          have hns39_0 := NB459_460.out
          have hns39_2 := NB461_460.out
          have hns39_3 := NB464_460.out
          have hms39_0 := NB460_459.out
          have hms39_2 := NB460_461.out
          have hms39_3 := NB460_464.out
          refine skip_ (w1 := ?_) (by rfl) rfl ?_ ?_
          rotate_left
          · go_simp
            rfl
          refine hK.out _ _ ⟨((cell_far (p := ⟨gb460, _, none⟩) NB459_460.out _).trans (((cell_far (p := ⟨gb460, _, none⟩) NB459_460.out _).trans (((cell_far (p := ⟨gb460, _, none⟩) NB459_460.out _).trans (((cell_far (p := ⟨gb460, _, none⟩) NB459_460.out _).trans (hHeld.1)))))))), ((cell_far (p := ⟨gb460, _, none⟩) NB459_460.out _).trans (((cell_far (p := ⟨gb460, _, none⟩) NB459_460.out _).trans (((cell_far (p := ⟨gb460, _, none⟩) NB459_460.out _).trans (((cell_far (p := ⟨gb460, _, none⟩) NB459_460.out _).trans (hHeld.2.1)))))))), ((cell_far (p := ⟨gb460, _, none⟩) NB459_460.out _).trans (((cell_far (p := ⟨gb460, _, none⟩) NB459_460.out _).trans (((cell_far (p := ⟨gb460, _, none⟩) NB459_460.out _).trans (((cell_far (p := ⟨gb460, _, none⟩) NB459_460.out _).trans (hHeld.2.2.1)))))))), ((cell_far (p := ⟨gb460, _, none⟩) NB459_460.out _).trans (((cell_far (p := ⟨gb460, _, none⟩) NB459_460.out _).trans (((cell_far (p := ⟨gb460, _, none⟩) NB459_460.out _).trans (((cell_far (p := ⟨gb460, _, none⟩) NB459_460.out _).trans (hHeld.2.2.2.1)))))))), ((cell_far (p := ⟨gb460, _, none⟩) NB464_460.out _).trans (((cell_far (p := ⟨gb460, _, none⟩) NB464_460.out _).trans (((cell_far (p := ⟨gb460, _, none⟩) NB464_460.out _).trans (((cell_far (p := ⟨gb460, _, none⟩) NB464_460.out _).trans (hHeld.2.2.2.2.1)))))))), ((cell_far (p := ⟨gb460, _, none⟩) NB464_460.out _).trans (((cell_far (p := ⟨gb460, _, none⟩) NB464_460.out _).trans (((cell_far (p := ⟨gb460, _, none⟩) NB464_460.out _).trans (((cell_far (p := ⟨gb460, _, none⟩) NB464_460.out _).trans (hHeld.2.2.2.2.2))))))))⟩ (fun hHeld => ?_)
          clear hK K
          refine one_ (i := 3) (N := none) (mb_ 4 15) rfl rfl (by kernel_rfl) (by decide) (fun K hK => ?_)
          have hs40 : w33.cell? ⟨gb461, 0, none⟩ = some (.int .i64 0) := (blk_cell BK461.out 0).trans rfl
          have hfs40 := blk_frozen BK461.out 0
          have hns40_0 := NB459_461.out
          have hns40_1 := NB460_461.out
          have hns40_3 := NB464_461.out
          have hms40_0 := NB461_459.out
          have hms40_1 := NB461_460.out
          have hms40_3 := NB461_464.out
          have hs41 : w33.cell? ⟨gb461, 1, none⟩ = some (.int .u64 0) := (blk_cell BK461.out 1).trans rfl
          have hfs41 := blk_frozen BK461.out 1
          have hns41_0 := NB459_461.out
          have hns41_1 := NB460_461.out
          have hns41_3 := NB464_461.out
          have hms41_0 := NB461_459.out
          have hms41_1 := NB461_460.out
          have hms41_3 := NB461_464.out
          refine skip_ (w1 := ?_) (by rfl) rfl ?_ ?_
          rotate_left
          · go_simp
            rfl
          refine hK.out _ _ ⟨((cell_far (p := ⟨gb461, _, none⟩) NB459_461.out _).trans (((cell_far (p := ⟨gb461, _, none⟩) NB459_461.out _).trans (hHeld.1)))), ((cell_far (p := ⟨gb461, _, none⟩) NB459_461.out _).trans (((cell_far (p := ⟨gb461, _, none⟩) NB459_461.out _).trans (hHeld.2.1)))), ((cell_far (p := ⟨gb461, _, none⟩) NB459_461.out _).trans (((cell_far (p := ⟨gb461, _, none⟩) NB459_461.out _).trans (hHeld.2.2.1)))), ((cell_far (p := ⟨gb461, _, none⟩) NB459_461.out _).trans (((cell_far (p := ⟨gb461, _, none⟩) NB459_461.out _).trans (hHeld.2.2.2.1)))), ((cell_far (p := ⟨gb461, _, none⟩) NB464_461.out _).trans (((cell_far (p := ⟨gb461, _, none⟩) NB464_461.out _).trans (hHeld.2.2.2.2.1)))), ((cell_far (p := ⟨gb461, _, none⟩) NB464_461.out _).trans (((cell_far (p := ⟨gb461, _, none⟩) NB464_461.out _).trans (hHeld.2.2.2.2.2))))⟩ (fun hHeld => ?_)
          clear hK K
          refine done_ (by kernel_rfl) ?_
          try go_wp2
          refine bodyPost_ret (results_cc rfl _ _ gb460 gb461 29 34 #[.slice Ao34 x460000_1.length co34, .slice Ao36 x460001_1.length co36, .int .u64 a0_2, .slice A0_3 l0_3.length c0_3] #[.int .i64 t462, .int .u64 t463] (0, 0) (0, 0) _ _ rfl (kP_ BK460.out) Try.underlying29 rfl (by kernel_rfl) rfl (kP_ BK461.out) Try.underlying34 rfl (by kernel_rfl)) rfl ?_
          exact ⟨_, _, _, r3_, (vF_ HO_460000.out), (vF_ HO_460001.out), (vF_ HO_460003.out), beT_⟩
        rw [if_neg c32] at H
        have c32b0 : (x2_1.toList == ([] : List UInt8)) = false := beq_eq_false_iff_ne.mpr c32
        have c32b1 : (x2_1.toList != ([] : List UInt8)) = true := bne_iff_ne.mpr c32
        obtain ⟨ji42, hji42⟩ : ∃ j_ : Int, (mn (wrap64 (8 - (wrap64 (Int.tmod x11_1 8)))) (x2_1.size : Int)) = j_ := ⟨_, rfl⟩
        replace H : (if 0 ≤ (ji42) then (if (ji42) ≤ (x2_1.size : Int) then ((ferryref01_Le.f k1 (x2_1.extract 0 ((ji42) : Int).toNat)).bind fun t466 => ((ferryref03_Store.f k1 x460000_1 x460001_1 x11_1 (ji42) t466).bind fun bt467 => (ferryref05_put.l0 k1 (x2_1.extract ((ji42) : Int).toNat x2_1.size) (IntKind.u64.wrap (x11_1 + (IntKind.u64.wrap (ji42)))) bt467.1 bt467.2.1 a0_2 l0_3 t462 t463))) else (none)) else (none)) = some (r1, r2, r3, r4, r5, r6) := by (rw [hji42] at H; exact H)
        have hji42_ : (if (x2_1.size : Int) < (wrap64 (8 - (wrap64 (Int.tmod x11_1 8)))) then (x2_1.size : Int) else (wrap64 (8 - (wrap64 (Int.tmod x11_1 8))))) = ji42 := hji42
        by_cases c43 : 0 ≤ (ji42)
        · rw [if_pos c43] at H
          have c43b0 := eq_true c43
          have c43b1 : decide (0 ≤ (ji42)) = true := decide_eq_true c43
          clear c43
          by_cases c44 : (ji42) ≤ (x2_1.size : Int)
          · rw [if_pos c44] at H
            have c44b0 := eq_true c44
            have c44b1 : decide ((ji42) ≤ (x2_1.size : Int)) = true := decide_eq_true c44
            clear c44
            replace H := Option.bind_eq_some_iff.mp H
            obtain ⟨t466, A450, H⟩ := H
            have A45 := Aside0.mk A450
            clear A450
            replace H := Option.bind_eq_some_iff.mp H
            obtain ⟨⟨t467, t470, t473, t474⟩, A460, H⟩ := H
            have A46 := Aside0.mk A460
            clear A460
            have c47b0 := eq_true (dT_ : 0 ≤ (ji42))
            have c48b0 := eq_true (dT_ : (ji42) ≤ (x2_1.size : Int))
            have H' := Aside0.mk H
            clear H
            try go_wp2
            replace HO_460000 := Aside0.mk (Kd.V_drew HO_460000.out)
            replace HO_460001 := Aside0.mk (Kd.V_drew HO_460001.out)
            replace HO_460003 := Aside0.mk (Kd.V_drew HO_460003.out)
            replace BK459 := Aside0.mk (blk_drew BK459.out)
            replace BK460 := Aside0.mk (blk_drew BK460.out)
            replace BK461 := Aside0.mk (blk_drew BK461.out)
            replace BK464 := Aside0.mk (blk_drew BK464.out)
            replace HB := Aside0.mk (below_drew1 HB.out)
            refine start_ (n := 14) (S := fun w' => w'.cell? ⟨gb459, 0, none⟩ = some (u460000) ∧ w'.cell? ⟨gb459, 1, none⟩ = some (u460001) ∧ w'.cell? ⟨gb459, 2, none⟩ = some (.int .u64 a0_2) ∧ w'.cell? ⟨gb459, 3, none⟩ = some (.slice A0_3 l0_3.length c0_3)) (ds := [13]) (mb_ 14 0) (by kernel_rfl) rfl rfl ⟨(blk_cell BK459.out 0).trans rfl, (blk_cell BK459.out 1).trans rfl, (blk_cell BK459.out 2).trans rfl, (blk_cell BK459.out 3).trans rfl⟩ (fun hHeld => ?_); refine with_tabW ferryref05_put.tab9 ferryref05_put.bits9 (fun HT_ HW_ => ?_)
            generalize wr.drew = w49 at HO_460000 HO_460001 HO_460003 BK459 BK460 BK461 BK464 HB hHeld ⊢
            refine pS_ 0 42 (mb_ 14 1) ?_
            refine pS_ 2 44 (mb_ 14 5) ?_
            refine pS_ 3 45 (mb_ 14 13) ?_
            refine pS_ 4 46 (mb_ 14 29) ?_
            refine pS_ 5 47 (mb_ 14 61) ?_
            refine pS_ 6 48 (mb_ 14 125) ?_
            refine t4S_ 1 43 (mb_ 14 127) ?_
            refine one_ (i := 7) (N := some 49) (mb_ 14 255) rfl rfl (one_of HT_.out (by kernel_rfl)) (by decide) (fun K hK => ?_)
            refine goes_ Try.func82 (by kernel_rfl) rfl #[.string (x2_1.extract 0 ((ji42) : Int).toNat)] (by rfl) rfl rfl (by (try simp only [List.map_toArray, List.map_cons, List.map_nil]); rfl) ?_
            with_reducible refine (ferryref01_Le.calls k1 (x2_1.extract 0 ((ji42) : Int).toNat) t466 _ A45.out).mono ?_
            rintro e w' ⟨rfl, ⟨nd, rfl⟩⟩
            refine ⟨_, rfl, ?_⟩
            obtain ⟨Ao50, co50, eo50⟩ := Kd.V_slice HO_460000.out
            (subst eo50)
            obtain ⟨Ao51, co51, eo51⟩ := Kd.V_slice HO_460001.out
            (subst eo51)
            refine hK.out _ _ ⟨(blk_cell BK459.out 0).trans rfl, (blk_cell BK459.out 1).trans rfl, (blk_cell BK459.out 2).trans rfl, (blk_cell BK459.out 3).trans rfl⟩ (fun hHeld => ?_)
            clear hK K
            refine nS_ ?_
            refine one_ (i := 8) (N := some 50) (mb_ 14 511) rfl rfl (one_of HT_.out (by kernel_rfl)) (by decide) (fun K hK => ?_)
            refine goes_ Try.func81 (by kernel_rfl) rfl #[.agg #[.slice Ao50 x460000_1.length co50, .slice Ao51 x460001_1.length co51], .int .u64 x11_1, .int .i64 ji42, .int .u64 t466] (by rfl) rfl rfl (by (try simp only [List.map_toArray, List.map_cons, List.map_nil]); rfl) ?_
            with_reducible refine (ferryref03_Store.calls k1 (fun k_ => (((P0_0_ k_ ∨ P0_1_ k_ ∨ P0_3_ k_) ∨ w.heap.size ≤ k_) ∧ (k_ ≠ gb459 ∧ (k_ ≠ gb460 ∧ (k_ ≠ gb461 ∧ k_ ≠ gb464))))) _ _ x460000_1 (fun k_ => (((P0_0_ k_ ∨ P0_1_ k_ ∨ P0_3_ k_) ∨ w.heap.size ≤ k_) ∧ (k_ ≠ gb459 ∧ (k_ ≠ gb460 ∧ (k_ ≠ gb461 ∧ k_ ≠ gb464))))) _ _ x460001_1 x11_1 ji42 t466 t467 t470 t473 t474 _ ?side1 ?side2 A46.out).mono ?_
            (case side1 => exact HO_460000.out)
            (case side2 => exact HO_460001.out)
            rintro e w52 ⟨v468, v471, rfl, ho0, ho1, hb⟩
            refine ⟨_, rfl, ?_⟩
            have HO469 := Aside0.mk (Kd.V_lower (Kd.V_mono (ok' := fun k_ => ((P0_0_ k_ ∨ P0_1_ k_ ∨ P0_3_ k_) ∨ w.heap.size ≤ k_) ∧ k_ ≠ gb459 ∧ k_ ≠ gb460 ∧ k_ ≠ gb461 ∧ k_ ≠ gb464) ho0 (fun k_ hk_ => ⟨Or.elim hk_ (fun hs_ => Or.elim hs_ (fun hs_ => hs_.1) (fun hs_ => hs_.1)) (fun hn_ => (.inr (Nat.le_trans (below_size beT_) hn_))), Or.elim hk_ (fun hs_ => Or.elim hs_ (fun hs_ => hs_.2.1) (fun hs_ => hs_.2.1)) (fun hn_ => (Kd.freshB (g := gb459) (o := .cells #[.slice Ao50 x460000_1.length co50, .slice Ao51 x460001_1.length co51, .int .u64 a0_2, .slice A0_3 l0_3.length c0_3] 29 (0, 0)) (bT_ BK459.out) k_ hn_)), Or.elim hk_ (fun hs_ => Or.elim hs_ (fun hs_ => hs_.2.2.1) (fun hs_ => hs_.2.2.1)) (fun hn_ => (Kd.freshB (g := gb460) (o := .cells #[.slice none 0 0, .slice none 0 0, .int .u64 0, .slice none 0 0] 29 (0, 0)) (bT_ BK460.out) k_ hn_)), Or.elim hk_ (fun hs_ => Or.elim hs_ (fun hs_ => hs_.2.2.2.1) (fun hs_ => hs_.2.2.2.1)) (fun hn_ => (Kd.freshB (g := gb461) (o := .cells #[.int .i64 0, .int .u64 0] 34 (0, 0)) (bT_ BK461.out) k_ hn_)), Or.elim hk_ (fun hs_ => Or.elim hs_ (fun hs_ => hs_.2.2.2.2) (fun hs_ => hs_.2.2.2.2)) (fun hn_ => (Kd.freshB (g := gb464) (o := .cells #[.int .i64 t462, .int .u64 t463] 34 (0, 0)) (bT_ BK464.out) k_ hn_))⟩)) (below_size beT_))
            have HO472 := Aside0.mk (Kd.V_lower (Kd.V_mono (ok' := fun k_ => ((P0_0_ k_ ∨ P0_1_ k_ ∨ P0_3_ k_) ∨ w.heap.size ≤ k_) ∧ k_ ≠ gb459 ∧ k_ ≠ gb460 ∧ k_ ≠ gb461 ∧ k_ ≠ gb464) ho1 (fun k_ hk_ => ⟨Or.elim hk_ (fun hs_ => Or.elim hs_ (fun hs_ => hs_.1) (fun hs_ => hs_.1)) (fun hn_ => (.inr (Nat.le_trans (below_size beT_) hn_))), Or.elim hk_ (fun hs_ => Or.elim hs_ (fun hs_ => hs_.2.1) (fun hs_ => hs_.2.1)) (fun hn_ => (Kd.freshB (g := gb459) (o := .cells #[.slice Ao50 x460000_1.length co50, .slice Ao51 x460001_1.length co51, .int .u64 a0_2, .slice A0_3 l0_3.length c0_3] 29 (0, 0)) (bT_ BK459.out) k_ hn_)), Or.elim hk_ (fun hs_ => Or.elim hs_ (fun hs_ => hs_.2.2.1) (fun hs_ => hs_.2.2.1)) (fun hn_ => (Kd.freshB (g := gb460) (o := .cells #[.slice none 0 0, .slice none 0 0, .int .u64 0, .slice none 0 0] 29 (0, 0)) (bT_ BK460.out) k_ hn_)), Or.elim hk_ (fun hs_ => Or.elim hs_ (fun hs_ => hs_.2.2.2.1) (fun hs_ => hs_.2.2.2.1)) (fun hn_ => (Kd.freshB (g := gb461) (o := .cells #[.int .i64 0, .int .u64 0] 34 (0, 0)) (bT_ BK461.out) k_ hn_)), Or.elim hk_ (fun hs_ => Or.elim hs_ (fun hs_ => hs_.2.2.2.2) (fun hs_ => hs_.2.2.2.2)) (fun hn_ => (Kd.freshB (g := gb464) (o := .cells #[.int .i64 t462, .int .u64 t463] 34 (0, 0)) (bT_ BK464.out) k_ hn_))⟩)) (below_size beT_))
            replace HO_460000 := vB_ HO_460000.out hb
            replace HO_460001 := vB_ HO_460001.out hb
            replace HO_460003 := vB_ HO_460003.out hb
            replace BK459 := kB_ BK459 hb
            replace BK460 := kB_ BK460 hb
            replace BK461 := kB_ BK461 hb
            replace BK464 := kB_ BK464 hb
            replace HB := hB_ hb
            (try clear hb)
            (try clear ho0)
            (try clear ho1)
            obtain ⟨Ao53, co53, eo53⟩ := Kd.V_slice HO469.out
            (subst eo53)
            obtain ⟨Ao55, co55, eo55⟩ := Kd.V_slice HO472.out
            (subst eo55)
            refine hK.out _ _ ⟨(blk_cell BK459.out 0).trans rfl, (blk_cell BK459.out 1).trans rfl, (blk_cell BK459.out 2).trans rfl, (blk_cell BK459.out 3).trans rfl⟩ (fun hHeld => ?_)
            clear hK K
            refine nS_ ?_
            refine pS_ 9 41 (mb_ 14 1023) ?_
            refine pS_ 10 51 (mb_ 14 2047) ?_
            refine pS_ 11 52 (mb_ 14 4095) ?_
            refine pS_ 12 53 (mb_ 14 8191) ?_
            refine last_ (i := 13) (N := none) (mb_ 14 16383) rfl rfl (one_of HT_.out (by kernel_rfl)) (by decide) (fun K hK => ?_)
            have hs54 : w52.cell? ⟨gb459, 0, none⟩ = some (.slice Ao50 x460000_1.length co50) := (blk_cell BK459.out 0).trans rfl
            have hfs54 := blk_frozen BK459.out 0
            have hns54_1 := NB460_459.out
            have hns54_2 := NB461_459.out
            have hns54_3 := NB464_459.out
            have hms54_1 := NB459_460.out
            have hms54_2 := NB459_461.out
            have hms54_3 := NB459_464.out
            have hs56 : w52.cell? ⟨gb459, 1, none⟩ = some (.slice Ao51 x460001_1.length co51) := (blk_cell BK459.out 1).trans rfl
            have hfs56 := blk_frozen BK459.out 1
            have hns56_1 := NB460_459.out
            have hns56_2 := NB461_459.out
            have hns56_3 := NB464_459.out
            have hms56_1 := NB459_460.out
            have hms56_2 := NB459_461.out
            have hms56_3 := NB459_464.out
            refine skip_ (w1 := ?_) (by rfl) rfl ?_ ?_
            rotate_left
            · go_simp
              rfl
            refine hK.out _ _ ?_
            clear hK K
            refine done_ (done_of HT_.out (by kernel_rfl)) ?_
            try go_wp2
            go_roundg k1
            case measure => have := HK1.out; omega
            case rel => exact ⟨(x2_1.extract ((ji42) : Int).toNat x2_1.size), (IntKind.u64.wrap (x11_1 + (IntKind.u64.wrap (ji42)))), (t467), (t470), (.slice Ao53 t467.length co53), (.slice Ao55 t470.length co55), (by rfl), (by rfl), H', ⟨by have := HK1.out; omega⟩, ⟨vF_ HO469.out⟩, ⟨vF_ HO472.out⟩, ⟨vF_ HO_460003.out⟩, ⟨kP_ BK459.out⟩, ⟨bfT_ BK460.out⟩, ⟨bfT_ BK461.out⟩, ⟨bfT_ BK464.out⟩, ⟨beT_⟩⟩
          rw [if_neg c44] at H
          exact absurd H (by simp)
        rw [if_neg c43] at H
        exact absurd H (by simp)
  rw [if_neg c16] at H
  have c16b0 : (t462 == 0) = false := beq_eq_false_iff_ne.mpr c16
  have c16b1 : (t462 != 0) = true := bne_iff_ne.mpr c16
  simp only [Option.some.injEq, Prod.mk.injEq] at H
  obtain ⟨rfl, rfl, rfl, rfl, rfl, rfl⟩ := H
  go_enter Try.func50, Try.ntmps50
  try go_wp2_with (first | ((with_reducible refine gate_dst (N := 4) rfl ?_); refine bE_ 4 #[.slice A0_0 l0_0.length c0_0, .slice A0_1 l0_1.length c0_1, .int .u64 a0_2, .slice A0_3 l0_3.length c0_3] 29 ?_; intro gb459 hg w57 hbox hb; have BK459 := Aside0.mk hbox; have GW459 := geT_ w.heap.size hg; have GE459 := geT_ w.heap.size hg; replace HO0_0 := vE_ HO0_0.out hg hb; replace HO0_1 := vE_ HO0_1.out hg hb; replace HO0_3 := vE_ HO0_3.out hg hb; replace HB := hB_ hb; clear hb hbox hg) | ((with_reducible refine gate_dst (N := 8) rfl ?_); refine bE_ 8 #[.slice none 0 0, .slice none 0 0, .int .u64 0, .slice none 0 0] 29 ?_; intro gb460 hg w58 hbox hb; have BK460 := Aside0.mk hbox; have GW460 := geT_ w.heap.size hg; have GE460 := geT_ w.heap.size hg; have NB459_460 := nlT_ BK459.out hg; have NB460_459 := ngT_ BK459.out hg; replace HO0_0 := vE_ HO0_0.out hg hb; replace HO0_1 := vE_ HO0_1.out hg hb; replace HO0_3 := vE_ HO0_3.out hg hb; replace BK459 := kB_ BK459 hb; replace HB := hB_ hb; clear hb hbox hg) | ((with_reducible refine gate_dst (N := 9) rfl ?_); refine bE_ 9 #[.int .i64 0, .int .u64 0] 34 ?_; intro gb461 hg w59 hbox hb; have BK461 := Aside0.mk hbox; have GW461 := geT_ w.heap.size hg; have GE461 := geT_ w.heap.size hg; have NB459_461 := nlT_ BK459.out hg; have NB461_459 := ngT_ BK459.out hg; have NB460_461 := nlT_ BK460.out hg; have NB461_460 := ngT_ BK460.out hg; replace HO0_0 := vE_ HO0_0.out hg hb; replace HO0_1 := vE_ HO0_1.out hg hb; replace HO0_3 := vE_ HO0_3.out hg hb; replace BK459 := kB_ BK459 hb; replace BK460 := kB_ BK460 hb; replace HB := hB_ hb; clear hb hbox hg; have hnb60 := NB459_460.out; have hnc60 := NB460_459.out; have hnb61 := NB459_461.out; have hnc61 := NB461_459.out; obtain ⟨hcz62_0, hcz62_1, hcz62_2, hcz62_3, hfz62_0, hfz62_1, hfz62_2, hfz62_3⟩ := b4_ BK459.out) | ((with_reducible refine gate_callee (f := 54) rfl ?_); refine gL_ (some 23) Try.func54 #[.agg #[.slice A0_0 l0_0.length c0_0, .slice A0_1 l0_1.length c0_1, .int .u64 a0_2, .slice A0_3 l0_3.length c0_3], .int .u32 a1, .int .i64 (a2.size : Int), .int .i64 a3] ?_; (with_reducible refine (ferryref05_ask.calls k _ _ l0_0 _ _ l0_1 a0_2 _ _ l0_3 a1 (a2.size : Int) a3 t462 t463 _ ?side1 ?side2 ?side3 ?side4 ?side5 ?side6 A15.out).mono ?_); (case side1 => exact cT_ (Kd.V_reads' HO0_0.out).2.2); (case side2 => exact (Kd.V_reads' HO0_0.out).2.1); (case side3 => exact cT_ (Kd.V_reads' HO0_1.out).2.2); (case side4 => exact (Kd.V_reads' HO0_1.out).2.1); (case side5 => exact cT_ (Kd.V_reads' HO0_3.out).2.2); (case side6 => exact (Kd.V_reads' HO0_3.out).2.1); rintro e w63 ⟨rfl, hb⟩; refine ⟨_, rfl, ?_⟩; replace HO0_0 := vB_ HO0_0.out hb; replace HO0_1 := vB_ HO0_1.out hb; replace HO0_3 := vB_ HO0_3.out hb; replace BK459 := kB_ BK459 hb; replace BK460 := kB_ BK460 hb; replace BK461 := kB_ BK461 hb; replace HB := hB_ hb; (try clear hb)) | ((with_reducible refine gate_dst (N := 10) rfl ?_); refine bE_ 10 #[.int .i64 0, .int .u64 0] 34 ?_; intro gb464 hg w64 hbox hb; have BK464 := Aside0.mk hbox; have GW464 := geT_ w.heap.size hg; have GE464 := geT_ w.heap.size hg; have NB459_464 := nlT_ BK459.out hg; have NB464_459 := ngT_ BK459.out hg; have NB460_464 := nlT_ BK460.out hg; have NB464_460 := ngT_ BK460.out hg; have NB461_464 := nlT_ BK461.out hg; have NB464_461 := ngT_ BK461.out hg; replace HO0_0 := vE_ HO0_0.out hg hb; replace HO0_1 := vE_ HO0_1.out hg hb; replace HO0_3 := vE_ HO0_3.out hg hb; replace BK459 := kB_ BK459 hb; replace BK460 := kB_ BK460 hb; replace BK461 := kB_ BK461 hb; replace HB := hB_ hb; clear hb hbox hg; have hnb65 := NB464_459.out; have hnc65 := NB459_464.out; have hnb66 := NB464_460.out; have hnc66 := NB460_464.out; have hnb67 := NB464_461.out; have hnc67 := NB461_464.out; obtain ⟨hcz68_0, hcz68_1, hfz68_0, hfz68_1⟩ := b2_ BK464.out))
  have n0_ : Aside0 (Kd.V k83 83 ((w64.setCell ⟨gb464, 0, none⟩ (.int .i64 t462)).setCell ⟨gb464, 1, none⟩ (.int .u64 t463)) w.heap.size (fun k_ => ((P0_0_ k_ ∨ P0_1_ k_ ∨ P0_3_ k_) ∨ w.heap.size ≤ k_) ∧ k_ ≠ gb459 ∧ k_ ≠ gb460 ∧ k_ ≠ gb461 ∧ k_ ≠ gb464) (.slice A0_0 l0_0.length c0_0) l0_0) := ⟨vF_ HO0_0.out⟩
  have n1_ : Aside0 (Kd.V k88 88 ((w64.setCell ⟨gb464, 0, none⟩ (.int .i64 t462)).setCell ⟨gb464, 1, none⟩ (.int .u64 t463)) w.heap.size (fun k_ => ((P0_0_ k_ ∨ P0_1_ k_ ∨ P0_3_ k_) ∨ w.heap.size ≤ k_) ∧ k_ ≠ gb459 ∧ k_ ≠ gb460 ∧ k_ ≠ gb461 ∧ k_ ≠ gb464) (.slice A0_1 l0_1.length c0_1) l0_1) := ⟨vF_ HO0_1.out⟩
  have n2_ : Aside0 (Kd.V k41 41 ((w64.setCell ⟨gb464, 0, none⟩ (.int .i64 t462)).setCell ⟨gb464, 1, none⟩ (.int .u64 t463)) w.heap.size (fun k_ => ((P0_0_ k_ ∨ P0_1_ k_ ∨ P0_3_ k_) ∨ w.heap.size ≤ k_) ∧ k_ ≠ gb459 ∧ k_ ≠ gb460 ∧ k_ ≠ gb461 ∧ k_ ≠ gb464) (.slice A0_3 l0_3.length c0_3) l0_3) := ⟨vF_ HO0_3.out⟩
  have n3_ : Aside0 (((w64.setCell ⟨gb464, 0, none⟩ (.int .i64 t462)).setCell ⟨gb464, 1, none⟩ (.int .u64 t463)).heap[gb459]? = some (.cells #[.slice A0_0 l0_0.length c0_0, .slice A0_1 l0_1.length c0_1, .int .u64 a0_2, .slice A0_3 l0_3.length c0_3] 29 (0, 0))) := ⟨bfT_ BK459.out⟩
  have n4_ : Aside0 (((w64.setCell ⟨gb464, 0, none⟩ (.int .i64 t462)).setCell ⟨gb464, 1, none⟩ (.int .u64 t463)).heap[gb460]? = some (.cells #[.slice none 0 0, .slice none 0 0, .int .u64 0, .slice none 0 0] 29 (0, 0))) := ⟨bfT_ BK460.out⟩
  have n5_ : Aside0 (((w64.setCell ⟨gb464, 0, none⟩ (.int .i64 t462)).setCell ⟨gb464, 1, none⟩ (.int .u64 t463)).heap[gb461]? = some (.cells #[.int .i64 0, .int .u64 0] 34 (0, 0))) := ⟨bfT_ BK461.out⟩
  have n6_ : Aside0 (((w64.setCell ⟨gb464, 0, none⟩ (.int .i64 t462)).setCell ⟨gb464, 1, none⟩ (.int .u64 t463)).heap[gb464]? = some (.cells #[.int .i64 t462, .int .u64 t463] 34 (0, 0))) := ⟨kP_ BK464.out⟩
  have n7_ : Aside0 (Below w.heap.size w ((w64.setCell ⟨gb464, 0, none⟩ (.int .i64 t462)).setCell ⟨gb464, 1, none⟩ (.int .u64 t463))) := ⟨beT_⟩
  (try clear HO0_0)
  (try clear HO0_1)
  (try clear HO0_3)
  (try clear BK459)
  (try clear BK460)
  (try clear BK461)
  (try clear BK464)
  (try clear HB)
  generalize ((w64.setCell ⟨gb464, 0, none⟩ (.int .i64 t462)).setCell ⟨gb464, 1, none⟩ (.int .u64 t463)) = w69 at n0_ n1_ n2_ n3_ n4_ n5_ n6_ n7_ ⊢
  have HO0_0 := n0_
  have HO0_1 := n1_
  have HO0_3 := n2_
  have BK459 := n3_
  have BK460 := n4_
  have BK461 := n5_
  have BK464 := n6_
  have HB := n7_
  clear n0_ n1_ n2_ n3_ n4_ n5_ n6_ n7_
  replace HO0_0 := Aside0.mk (Kd.V_drew HO0_0.out)
  replace HO0_1 := Aside0.mk (Kd.V_drew HO0_1.out)
  replace HO0_3 := Aside0.mk (Kd.V_drew HO0_3.out)
  replace BK459 := Aside0.mk (blk_drew BK459.out)
  replace BK460 := Aside0.mk (blk_drew BK460.out)
  replace BK461 := Aside0.mk (blk_drew BK461.out)
  replace BK464 := Aside0.mk (blk_drew BK464.out)
  replace HB := Aside0.mk (below_drew1 HB.out)
  refine start_ (n := 4) (S := fun w' => w'.cell? ⟨gb459, 0, none⟩ = some (.slice A0_0 l0_0.length c0_0) ∧ w'.cell? ⟨gb459, 1, none⟩ = some (.slice A0_1 l0_1.length c0_1) ∧ w'.cell? ⟨gb459, 2, none⟩ = some (.int .u64 a0_2) ∧ w'.cell? ⟨gb459, 3, none⟩ = some (.slice A0_3 l0_3.length c0_3) ∧ w'.cell? ⟨gb464, 0, none⟩ = some (.int .i64 t462) ∧ w'.cell? ⟨gb464, 1, none⟩ = some (.int .u64 t463)) (ds := []) (mb_ 4 0) (by kernel_rfl) rfl rfl ⟨(blk_cell BK459.out 0).trans rfl, (blk_cell BK459.out 1).trans rfl, (blk_cell BK459.out 2).trans rfl, (blk_cell BK459.out 3).trans rfl, (blk_cell BK464.out 0).trans rfl, (blk_cell BK464.out 1).trans rfl⟩ (fun hHeld => ?_)
  generalize w69.drew = w70 at HO0_0 HO0_1 HO0_3 BK459 BK460 BK461 BK464 HB hHeld ⊢
  refine take_ (i := 0) (N := some 27) (v := ?_) (a' := ?_) (mb_ 4 1) rfl rfl (by kernel_rfl) (fun _ _ _ h => h) (Or.inl ⟨by rfl, ?_⟩) hHeld ?_ ?_
  rotate_left
  · rintro w' ⟨s0, s1, s2, s3, s4, s5⟩
    go_simp
    with_reducible rfl
  rotate_left
  · simp only [Act.put, List.setIfInBounds_toArray, List.set_cons_zero, List.set_cons_succ, i64_w, i32_w]
    rfl
  refine take_ (i := 1) (N := some 28) (v := ?_) (a' := ?_) (mb_ 4 3) rfl rfl (by kernel_rfl) (fun _ _ _ h => h) (Or.inl ⟨by rfl, ?_⟩) hHeld ?_ ?_
  rotate_left
  · rintro w' ⟨s0, s1, s2, s3, s4, s5⟩
    go_simp
    with_reducible rfl
  rotate_left
  · simp only [Act.put, List.setIfInBounds_toArray, List.set_cons_zero, List.set_cons_succ, i64_w, i32_w]
    rfl
  refine one_ (i := 2) (N := none) (mb_ 4 7) rfl rfl (by kernel_rfl) (by decide) (fun K hK => ?_)
  have hs71 : w70.cell? ⟨gb460, 0, none⟩ = some (.slice none 0 0) := (blk_cell BK460.out 0).trans rfl
  have hfs71 := blk_frozen BK460.out 0
  have hns71_0 := NB459_460.out
  have hns71_2 := NB461_460.out
  have hns71_3 := NB464_460.out
  have hms71_0 := NB460_459.out
  have hms71_2 := NB460_461.out
  have hms71_3 := NB460_464.out
  have hs72 : w70.cell? ⟨gb460, 1, none⟩ = some (.slice none 0 0) := (blk_cell BK460.out 1).trans rfl
  have hfs72 := blk_frozen BK460.out 1
  have hns72_0 := NB459_460.out
  have hns72_2 := NB461_460.out
  have hns72_3 := NB464_460.out
  have hms72_0 := NB460_459.out
  have hms72_2 := NB460_461.out
  have hms72_3 := NB460_464.out
  have hs73 : w70.cell? ⟨gb460, 2, none⟩ = some (.int .u64 0) := (blk_cell BK460.out 2).trans rfl
  have hfs73 := blk_frozen BK460.out 2
  have hns73_0 := NB459_460.out
  have hns73_2 := NB461_460.out
  have hns73_3 := NB464_460.out
  have hms73_0 := NB460_459.out
  have hms73_2 := NB460_461.out
  have hms73_3 := NB460_464.out
  have hs74 : w70.cell? ⟨gb460, 3, none⟩ = some (.slice none 0 0) := (blk_cell BK460.out 3).trans rfl
  have hfs74 := blk_frozen BK460.out 3
  have hns74_0 := NB459_460.out
  have hns74_2 := NB461_460.out
  have hns74_3 := NB464_460.out
  have hms74_0 := NB460_459.out
  have hms74_2 := NB460_461.out
  have hms74_3 := NB460_464.out
  refine skip_ (w1 := ?_) (by rfl) rfl ?_ ?_
  rotate_left
  · go_simp
    rfl
  refine hK.out _ _ ⟨((cell_far (p := ⟨gb460, _, none⟩) NB459_460.out _).trans (((cell_far (p := ⟨gb460, _, none⟩) NB459_460.out _).trans (((cell_far (p := ⟨gb460, _, none⟩) NB459_460.out _).trans (((cell_far (p := ⟨gb460, _, none⟩) NB459_460.out _).trans (hHeld.1)))))))), ((cell_far (p := ⟨gb460, _, none⟩) NB459_460.out _).trans (((cell_far (p := ⟨gb460, _, none⟩) NB459_460.out _).trans (((cell_far (p := ⟨gb460, _, none⟩) NB459_460.out _).trans (((cell_far (p := ⟨gb460, _, none⟩) NB459_460.out _).trans (hHeld.2.1)))))))), ((cell_far (p := ⟨gb460, _, none⟩) NB459_460.out _).trans (((cell_far (p := ⟨gb460, _, none⟩) NB459_460.out _).trans (((cell_far (p := ⟨gb460, _, none⟩) NB459_460.out _).trans (((cell_far (p := ⟨gb460, _, none⟩) NB459_460.out _).trans (hHeld.2.2.1)))))))), ((cell_far (p := ⟨gb460, _, none⟩) NB459_460.out _).trans (((cell_far (p := ⟨gb460, _, none⟩) NB459_460.out _).trans (((cell_far (p := ⟨gb460, _, none⟩) NB459_460.out _).trans (((cell_far (p := ⟨gb460, _, none⟩) NB459_460.out _).trans (hHeld.2.2.2.1)))))))), ((cell_far (p := ⟨gb460, _, none⟩) NB464_460.out _).trans (((cell_far (p := ⟨gb460, _, none⟩) NB464_460.out _).trans (((cell_far (p := ⟨gb460, _, none⟩) NB464_460.out _).trans (((cell_far (p := ⟨gb460, _, none⟩) NB464_460.out _).trans (hHeld.2.2.2.2.1)))))))), ((cell_far (p := ⟨gb460, _, none⟩) NB464_460.out _).trans (((cell_far (p := ⟨gb460, _, none⟩) NB464_460.out _).trans (((cell_far (p := ⟨gb460, _, none⟩) NB464_460.out _).trans (((cell_far (p := ⟨gb460, _, none⟩) NB464_460.out _).trans (hHeld.2.2.2.2.2))))))))⟩ (fun hHeld => ?_)
  clear hK K
  refine one_ (i := 3) (N := none) (mb_ 4 15) rfl rfl (by kernel_rfl) (by decide) (fun K hK => ?_)
  have hs75 : w70.cell? ⟨gb461, 0, none⟩ = some (.int .i64 0) := (blk_cell BK461.out 0).trans rfl
  have hfs75 := blk_frozen BK461.out 0
  have hns75_0 := NB459_461.out
  have hns75_1 := NB460_461.out
  have hns75_3 := NB464_461.out
  have hms75_0 := NB461_459.out
  have hms75_1 := NB461_460.out
  have hms75_3 := NB461_464.out
  have hs76 : w70.cell? ⟨gb461, 1, none⟩ = some (.int .u64 0) := (blk_cell BK461.out 1).trans rfl
  have hfs76 := blk_frozen BK461.out 1
  have hns76_0 := NB459_461.out
  have hns76_1 := NB460_461.out
  have hns76_3 := NB464_461.out
  have hms76_0 := NB461_459.out
  have hms76_1 := NB461_460.out
  have hms76_3 := NB461_464.out
  refine skip_ (w1 := ?_) (by rfl) rfl ?_ ?_
  rotate_left
  · go_simp
    rfl
  refine hK.out _ _ ⟨((cell_far (p := ⟨gb461, _, none⟩) NB459_461.out _).trans (((cell_far (p := ⟨gb461, _, none⟩) NB459_461.out _).trans (hHeld.1)))), ((cell_far (p := ⟨gb461, _, none⟩) NB459_461.out _).trans (((cell_far (p := ⟨gb461, _, none⟩) NB459_461.out _).trans (hHeld.2.1)))), ((cell_far (p := ⟨gb461, _, none⟩) NB459_461.out _).trans (((cell_far (p := ⟨gb461, _, none⟩) NB459_461.out _).trans (hHeld.2.2.1)))), ((cell_far (p := ⟨gb461, _, none⟩) NB459_461.out _).trans (((cell_far (p := ⟨gb461, _, none⟩) NB459_461.out _).trans (hHeld.2.2.2.1)))), ((cell_far (p := ⟨gb461, _, none⟩) NB464_461.out _).trans (((cell_far (p := ⟨gb461, _, none⟩) NB464_461.out _).trans (hHeld.2.2.2.2.1)))), ((cell_far (p := ⟨gb461, _, none⟩) NB464_461.out _).trans (((cell_far (p := ⟨gb461, _, none⟩) NB464_461.out _).trans (hHeld.2.2.2.2.2))))⟩ (fun hHeld => ?_)
  clear hK K
  refine done_ (by kernel_rfl) ?_
  try go_wp2
  refine bodyPost_ret (results_cc rfl _ _ gb460 gb461 29 34 #[.slice A0_0 l0_0.length c0_0, .slice A0_1 l0_1.length c0_1, .int .u64 a0_2, .slice A0_3 l0_3.length c0_3] #[.int .i64 t462, .int .u64 t463] (0, 0) (0, 0) _ _ rfl (kP_ BK460.out) Try.underlying29 rfl (by kernel_rfl) rfl (kP_ BK461.out) Try.underlying34 rfl (by kernel_rfl)) rfl ?_
  exact ⟨_, _, _, r3_, (vF_ HO0_0.out), (vF_ HO0_1.out), (vF_ HO0_3.out), beT_⟩

end Go.Proofs.Ytgkjdpdmmlalcaa.F
end
