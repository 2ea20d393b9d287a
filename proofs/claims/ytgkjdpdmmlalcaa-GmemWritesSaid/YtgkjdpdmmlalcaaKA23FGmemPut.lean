import Derived.Test.YtgkjdpdmmlalcaaKZF0
import Derived.Test.YtgkjdpdmmlalcaaKA0
import Derived.Test.YtgkjdpdmmlalcaaKA3
import Derived.Test.YtgkjdpdmmlalcaaKA5
import Derived.Test.YtgkjdpdmmlalcaaKA8HHost6
import Derived.Test.YtgkjdpdmmlalcaaKA10PHost6
import Derived.Test.YtgkjdpdmmlalcaaKA16
import Derived.Test.YtgkjdpdmmlalcaaKA18
import Derived.Test.YtgkjdpdmmlalcaaKA22
section
namespace Go.Proofs.Ytgkjdpdmmlalcaa.F
open Go.RowKit Go.Proofs.YtgkjdpdmmlalcaaW.PrintWords Go.Proofs.YtgkjdpdmmlalcaaW.PrintLast Go.Proofs.YtgkjdpdmmlalcaaW.PrintMore
attribute [local go_sem] max2_int min2_int max_two min_two max_three min_three max_four min_four
attribute [local go_sem] cell_twice
set_option linter.unusedVariables false
set_option linter.unusedSimpArgs false

def gmem_put.l0 : Nat → ByteArray → Int → List (S83) → List (S88) → Int → List (S41) → Option ((List (S83)) × (List (S88)) × Int × (List (S41)) × Int × Int)
  | 0, _, _, _, _, _, _ => none
  | k + 1, x2, x11, x175000, x175001, x175002, x175003 => if (x2.size : Int) > 0 then (if 0 ≤ (mn (x2.size : Int) 8) then (if (mn (x2.size : Int) 8) ≤ (x2.size : Int) then ((swap_Le.f (x2.extract 0 ((mn (x2.size : Int) 8) : Int).toNat)).bind fun t181 => ((host_Store.f x175000 x175001 x11 (mn (x2.size : Int) 8) t181).bind fun bt182 => (gmem_put.l0 k (x2.extract ((mn (x2.size : Int) 8) : Int).toNat x2.size) (IntKind.u64.wrap (x11 + (mn (x2.size : Int) 8))) bt182.1 bt182.2.1 x175002 x175003))) else (none)) else (none)) else (some (x175000, x175001, x175002, x175003, 0, 0))
def gmem_put.f (k : Nat) (l0_0 : List (S83)) (l0_1 : List (S88)) (a0_2 : Int) (l0_3 : List (S41)) (a1 : Int) (a2 : ByteArray) (a3 : Int) : Option ((List (S83)) × (List (S88)) × Int × (List (S41)) × Int × Int) := if (a2.size : Int) > 65536 then (some (l0_0, l0_1, a0_2, l0_3, 1, 0)) else ((gmem_first.f l0_0 l0_1 a0_2 l0_3 a1 (a2.size : Int) a3).bind fun bt177 => (if bt177.1 = 0 then ((guest_Place.f l0_0 l0_1 a0_2 l0_3 a1).bind fun t180 => (gmem_put.l0 k a2 t180 l0_0 l0_1 a0_2 l0_3)) else (some (l0_0, l0_1, a0_2, l0_3, bt177.1, bt177.2))))
def gmem_put.T9 : Bool × List (List Nat × List Nat) := (true, [([], []), ([0], [0]), ([], []), ([], []), ([], []), ([], []), ([4, 5], [4, 5]), ([6], [6]), ([1, 2, 3, 7, 7], [1, 2, 3, 7]), ([8], [8]), ([9], [9]), ([9], [9]), ([0, 1, 2, 3, 4, 5, 6, 7, 8, 9, 10], []), ([12, 10, 8, 0, 1, 2, 3, 4, 5, 6, 7, 8, 9, 10], [10, 12])])
def gmem_put.B9 : List Nat := [0, 1, 0, 0, 0, 0, 48, 112, 255, 511, 1023, 1023, 2047, 6143]
theorem gmem_put.tab9 : rtab .any (opsOf Try.f39 9) = gmem_put.T9 := by kernel_rfl
theorem gmem_put.bits9 : waitsOk gmem_put.T9.2 gmem_put.B9 = true := by kernel_rfl
def gmem_put.T10 : Bool × List (List Nat × List Nat) := (true, [([], []), ([], []), ([1], [1]), ([0, 2], [0, 2]), ([], []), ([], []), ([4, 5], [4, 5]), ([3, 0, 1, 2, 3], [0, 3]), ([6, 7, 0, 1, 2, 3, 4, 5, 6, 7], [4, 6])])
def gmem_put.B10 : List Nat := [0, 0, 2, 7, 0, 0, 48, 15, 255]
theorem gmem_put.tab10 : rtab .any (opsOf Try.f39 10) = gmem_put.T10 := by kernel_rfl
theorem gmem_put.bits10 : waitsOk gmem_put.T10.2 gmem_put.B10 = true := by kernel_rfl
set_option maxHeartbeats 8000000 in
set_option maxRecDepth 100000 in
theorem gmem_put.calls (k : Nat) (P0_0_ : Nat → Prop) (A0_0 : Option Addr) (c0_0 : Nat) (l0_0 : List (S83)) (P0_1_ : Nat → Prop) (A0_1 : Option Addr) (c0_1 : Nat) (l0_1 : List (S88)) (a0_2 : Int) (P0_3_ : Nat → Prop) (A0_3 : Option Addr) (c0_3 : Nat) (l0_3 : List (S41)) (a1 : Int) (a2 : ByteArray) (a3 : Int) (r1 : List (S83)) (r2 : List (S88)) (r3 : Int) (r4 : List (S41)) (r5 : Int) (r6 : Int) (w : World) (hs0_0 : Kd.V k83 83 w w.heap.size (fun k_ => P0_0_ k_) (.slice A0_0 l0_0.length c0_0) l0_0) (hs0_1 : Kd.V k88 88 w w.heap.size (fun k_ => P0_1_ k_) (.slice A0_1 l0_1.length c0_1) l0_1) (hs0_3 : Kd.V k41 41 w w.heap.size (fun k_ => P0_3_ k_) (.slice A0_3 l0_3.length c0_3) l0_3) (h : gmem_put.f k l0_0 l0_1 a0_2 l0_3 a1 a2 a3 = some (r1, r2, r3, r4, r5, r6)) :
    Calls Try.prog 39 #[.agg #[.slice A0_0 l0_0.length c0_0, .slice A0_1 l0_1.length c0_1, .int .u64 a0_2, .slice A0_3 l0_3.length c0_3], .int .u32 a1, .string a2, .int .i64 a3] w fun e w' => ∃ v0_ v1_ v3_ : Value, e = .returned (.tuple #[.agg #[v0_, v1_, .int .u64 r3, v3_], .agg #[.int .i64 r5, .int .u64 r6]]) ∧ Kd.V k83 83 w' w.heap.size (fun k_ => ((P0_0_ k_ ∨ P0_1_ k_ ∨ P0_3_ k_) ∨ w.heap.size ≤ k_)) v0_ r1 ∧ Kd.V k88 88 w' w.heap.size (fun k_ => ((P0_0_ k_ ∨ P0_1_ k_ ∨ P0_3_ k_) ∨ w.heap.size ≤ k_)) v1_ r2 ∧ Kd.V k41 41 w' w.heap.size (fun k_ => ((P0_0_ k_ ∨ P0_1_ k_ ∨ P0_3_ k_) ∨ w.heap.size ≤ k_)) v3_ r4 ∧ Below w.heap.size w w' := by
  have hu29 := Try.underlying29
  have hu34 := Try.underlying34
  have hu25 := Try.underlying25
  have HO0_0 := Aside0.mk (show Kd.V k83 83 w w.heap.size (fun k_ => ((P0_0_ k_ ∨ P0_1_ k_ ∨ P0_3_ k_) ∨ w.heap.size ≤ k_)) (.slice A0_0 l0_0.length c0_0) l0_0 from Kd.V_mono hs0_0 (fun k_ hk => .inl (.inl hk)))
  have HO0_1 := Aside0.mk (show Kd.V k88 88 w w.heap.size (fun k_ => ((P0_0_ k_ ∨ P0_1_ k_ ∨ P0_3_ k_) ∨ w.heap.size ≤ k_)) (.slice A0_1 l0_1.length c0_1) l0_1 from Kd.V_mono hs0_1 (fun k_ hk => .inl (.inr (.inl hk))))
  have HO0_3 := Aside0.mk (show Kd.V k41 41 w w.heap.size (fun k_ => ((P0_0_ k_ ∨ P0_1_ k_ ∨ P0_3_ k_) ∨ w.heap.size ≤ k_)) (.slice A0_3 l0_3.length c0_3) l0_3 from Kd.V_mono hs0_3 (fun k_ hk => .inl (.inr (.inr hk))))
  have HB := Aside0.mk (Below.refl w.heap.size w)
  have H : (if (a2.size : Int) > 65536 then (some (l0_0, l0_1, a0_2, l0_3, 1, 0)) else ((gmem_first.f l0_0 l0_1 a0_2 l0_3 a1 (a2.size : Int) a3).bind fun bt177 => (if bt177.1 = 0 then ((guest_Place.f l0_0 l0_1 a0_2 l0_3 a1).bind fun t180 => (gmem_put.l0 k a2 t180 l0_0 l0_1 a0_2 l0_3)) else (some (l0_0, l0_1, a0_2, l0_3, bt177.1, bt177.2))))) = some (r1, r2, r3, r4, r5, r6) := h
  clear h
  by_cases c5 : (a2.size : Int) > 65536
  · rw [if_pos c5] at H
    have c5b0 : decide (65536 < (a2.size : Int)) = true := decide_eq_true c5
    have c5b1 : decide (65536 < a2.size) = true := decide_eq_true (by omega)
    clear c5
    simp only [Option.some.injEq, Prod.mk.injEq] at H
    obtain ⟨rfl, rfl, rfl, rfl, rfl, rfl⟩ := H
    go_enter Try.func39, Try.ntmps39
    go_wp2_with (first | ((with_reducible refine gate_dst (N := 4) rfl ?_); refine bE_ 4 #[.slice A0_0 l0_0.length c0_0, .slice A0_1 l0_1.length c0_1, .int .u64 a0_2, .slice A0_3 l0_3.length c0_3] 29 ?_; intro gb174 hg w6 hbox hb; have BK174 := Aside0.mk hbox; have GW174 := geT_ w.heap.size hg; have GE174 := geT_ w.heap.size hg; replace HO0_0 := vE_ HO0_0.out hg hb; replace HO0_1 := vE_ HO0_1.out hg hb; replace HO0_3 := vE_ HO0_3.out hg hb; replace HB := hB_ hb; clear hb hbox hg) | ((with_reducible refine gate_dst (N := 8) rfl ?_); refine bE_ 8 #[.slice none 0 0, .slice none 0 0, .int .u64 0, .slice none 0 0] 29 ?_; intro gb175 hg w7 hbox hb; have BK175 := Aside0.mk hbox; have GW175 := geT_ w.heap.size hg; have GE175 := geT_ w.heap.size hg; have NB174_175 := nlT_ BK174.out hg; have NB175_174 := ngT_ BK174.out hg; replace HO0_0 := vE_ HO0_0.out hg hb; replace HO0_1 := vE_ HO0_1.out hg hb; replace HO0_3 := vE_ HO0_3.out hg hb; replace BK174 := kB_ BK174 hb; replace HB := hB_ hb; clear hb hbox hg) | ((with_reducible refine gate_dst (N := 9) rfl ?_); refine bE_ 9 #[.int .i64 0, .int .u64 0] 34 ?_; intro gb176 hg w8 hbox hb; have BK176 := Aside0.mk hbox; have GW176 := geT_ w.heap.size hg; have GE176 := geT_ w.heap.size hg; have NB174_176 := nlT_ BK174.out hg; have NB176_174 := ngT_ BK174.out hg; have NB175_176 := nlT_ BK175.out hg; have NB176_175 := ngT_ BK175.out hg; replace HO0_0 := vE_ HO0_0.out hg hb; replace HO0_1 := vE_ HO0_1.out hg hb; replace HO0_3 := vE_ HO0_3.out hg hb; replace BK174 := kB_ BK174 hb; replace BK175 := kB_ BK175 hb; replace HB := hB_ hb; clear hb hbox hg; have hnb9 := NB174_175.out; have hnc9 := NB175_174.out; have hnb10 := NB174_176.out; have hnc10 := NB176_174.out; obtain ⟨hcz11_0, hcz11_1, hcz11_2, hcz11_3, hfz11_0, hfz11_1, hfz11_2, hfz11_3⟩ := b4_ BK174.out; have hnb12 := NB175_176.out; have hnc12 := NB176_175.out; obtain ⟨hcz13_0, hcz13_1, hcz13_2, hcz13_3, hfz13_0, hfz13_1, hfz13_2, hfz13_3⟩ := b4_ BK175.out; obtain ⟨hcz14_0, hcz14_1, hfz14_0, hfz14_1⟩ := b2_ BK176.out))
    refine bodyPost_ret (results_cc rfl _ _ gb175 gb176 29 34 #[.slice A0_0 l0_0.length c0_0, .slice A0_1 l0_1.length c0_1, .int .u64 a0_2, .slice A0_3 l0_3.length c0_3] #[.int .i64 1, .int .u64 0] (0, 0) (0, 0) _ _ rfl (kP_ BK175.out) Try.underlying29 rfl (by kernel_rfl) rfl (kP_ BK176.out) Try.underlying34 rfl (by kernel_rfl)) rfl ?_
    exact ⟨_, _, _, r3_, (vF_ HO0_0.out), (vF_ HO0_1.out), (vF_ HO0_3.out), beT_⟩
  rw [if_neg c5] at H
  have c5b0 : decide (65536 < (a2.size : Int)) = false := decide_eq_false c5
  have c5b1 : decide (65536 < a2.size) = false := decide_eq_false (by omega)
  clear c5
  replace H := Option.bind_eq_some_iff.mp H
  obtain ⟨⟨t177, t178⟩, A150, H⟩ := H
  have A15 := Aside0.mk A150
  clear A150
  by_cases c16 : t177 = 0
  · rw [if_pos c16] at H
    have c16b0 : (t177 == 0) = true := beq_iff_eq.mpr c16
    have c16b1 : (t177 != 0) = false := bne_eq_false_iff_eq.mpr c16
    clear c16
    replace H := Option.bind_eq_some_iff.mp H
    obtain ⟨t180, A170, H⟩ := H
    have A17 := Aside0.mk A170
    clear A170
    have H' := Aside0.mk H
    clear H
    go_enter Try.func39, Try.ntmps39
    go_wp2_with (first | ((with_reducible refine gate_dst (N := 4) rfl ?_); refine bE_ 4 #[.slice A0_0 l0_0.length c0_0, .slice A0_1 l0_1.length c0_1, .int .u64 a0_2, .slice A0_3 l0_3.length c0_3] 29 ?_; intro gb174 hg w18 hbox hb; have BK174 := Aside0.mk hbox; have GW174 := geT_ w.heap.size hg; have GE174 := geT_ w.heap.size hg; replace HO0_0 := vE_ HO0_0.out hg hb; replace HO0_1 := vE_ HO0_1.out hg hb; replace HO0_3 := vE_ HO0_3.out hg hb; replace HB := hB_ hb; clear hb hbox hg) | ((with_reducible refine gate_dst (N := 8) rfl ?_); refine bE_ 8 #[.slice none 0 0, .slice none 0 0, .int .u64 0, .slice none 0 0] 29 ?_; intro gb175 hg w19 hbox hb; have BK175 := Aside0.mk hbox; have GW175 := geT_ w.heap.size hg; have GE175 := geT_ w.heap.size hg; have NB174_175 := nlT_ BK174.out hg; have NB175_174 := ngT_ BK174.out hg; replace HO0_0 := vE_ HO0_0.out hg hb; replace HO0_1 := vE_ HO0_1.out hg hb; replace HO0_3 := vE_ HO0_3.out hg hb; replace BK174 := kB_ BK174 hb; replace HB := hB_ hb; clear hb hbox hg) | ((with_reducible refine gate_dst (N := 9) rfl ?_); refine bE_ 9 #[.int .i64 0, .int .u64 0] 34 ?_; intro gb176 hg w20 hbox hb; have BK176 := Aside0.mk hbox; have GW176 := geT_ w.heap.size hg; have GE176 := geT_ w.heap.size hg; have NB174_176 := nlT_ BK174.out hg; have NB176_174 := ngT_ BK174.out hg; have NB175_176 := nlT_ BK175.out hg; have NB176_175 := ngT_ BK175.out hg; replace HO0_0 := vE_ HO0_0.out hg hb; replace HO0_1 := vE_ HO0_1.out hg hb; replace HO0_3 := vE_ HO0_3.out hg hb; replace BK174 := kB_ BK174 hb; replace BK175 := kB_ BK175 hb; replace HB := hB_ hb; clear hb hbox hg; have hnb21 := NB174_175.out; have hnc21 := NB175_174.out; have hnb22 := NB174_176.out; have hnc22 := NB176_174.out; obtain ⟨hcz23_0, hcz23_1, hcz23_2, hcz23_3, hfz23_0, hfz23_1, hfz23_2, hfz23_3⟩ := b4_ BK174.out) | ((with_reducible refine gate_callee (f := 41) rfl ?_); refine gL_ (some 23) Try.func41 #[.agg #[.slice A0_0 l0_0.length c0_0, .slice A0_1 l0_1.length c0_1, .int .u64 a0_2, .slice A0_3 l0_3.length c0_3], .int .u32 a1, .int .i64 (a2.size : Int), .int .i64 a3] ?_; (with_reducible refine (gmem_first.calls _ _ l0_0 _ _ l0_1 a0_2 _ _ l0_3 a1 (a2.size : Int) a3 t177 t178 _ ?side1 ?side2 ?side3 ?side4 ?side5 ?side6 A15.out).mono ?_); (case side1 => exact cT_ (Kd.V_reads' HO0_0.out).2.2); (case side2 => exact (Kd.V_reads' HO0_0.out).2.1); (case side3 => exact cT_ (Kd.V_reads' HO0_1.out).2.2); (case side4 => exact (Kd.V_reads' HO0_1.out).2.1); (case side5 => exact cT_ (Kd.V_reads' HO0_3.out).2.2); (case side6 => exact (Kd.V_reads' HO0_3.out).2.1); rintro e w24 ⟨rfl, hb⟩; refine ⟨_, rfl, ?_⟩; replace HO0_0 := vB_ HO0_0.out hb; replace HO0_1 := vB_ HO0_1.out hb; replace HO0_3 := vB_ HO0_3.out hb; replace BK174 := kB_ BK174 hb; replace BK175 := kB_ BK175 hb; replace BK176 := kB_ BK176 hb; replace HB := hB_ hb; (try clear hb)) | ((with_reducible refine gate_dst (N := 10) rfl ?_); refine bE_ 10 #[.int .i64 0, .int .u64 0] 34 ?_; intro gb179 hg w25 hbox hb; have BK179 := Aside0.mk hbox; have GW179 := geT_ w.heap.size hg; have GE179 := geT_ w.heap.size hg; have NB174_179 := nlT_ BK174.out hg; have NB179_174 := ngT_ BK174.out hg; have NB175_179 := nlT_ BK175.out hg; have NB179_175 := ngT_ BK175.out hg; have NB176_179 := nlT_ BK176.out hg; have NB179_176 := ngT_ BK176.out hg; replace HO0_0 := vE_ HO0_0.out hg hb; replace HO0_1 := vE_ HO0_1.out hg hb; replace HO0_3 := vE_ HO0_3.out hg hb; replace BK174 := kB_ BK174 hb; replace BK175 := kB_ BK175 hb; replace BK176 := kB_ BK176 hb; replace HB := hB_ hb; clear hb hbox hg; have hnb26 := NB179_174.out; have hnc26 := NB174_179.out; have hnb27 := NB179_175.out; have hnc27 := NB175_179.out; have hnb28 := NB179_176.out; have hnc28 := NB176_179.out; obtain ⟨hcz29_0, hcz29_1, hfz29_0, hfz29_1⟩ := b2_ BK179.out; obtain ⟨hcz30_0, hcz30_1, hcz30_2, hcz30_3, hfz30_0, hfz30_1, hfz30_2, hfz30_3⟩ := b4_ BK174.out) | ((with_reducible refine gate_callee (f := 75) rfl ?_); refine gL_ (some 31) Try.func75 #[.agg #[.slice A0_0 l0_0.length c0_0, .slice A0_1 l0_1.length c0_1, .int .u64 a0_2, .slice A0_3 l0_3.length c0_3], .int .u32 a1] ?_; (with_reducible refine (guest_Place.calls _ _ l0_0 _ _ l0_1 a0_2 _ _ l0_3 a1 t180 _ ?side1 ?side2 ?side3 ?side4 ?side5 ?side6 A17.out).mono ?_); (case side1 => refine (Kd.V_reads' (e := 83) (base := w.heap.size) (ok := fun _ => True) (n := l0_0.length) (c := c0_0) ?_).2.2; exact (by (with_reducible repeat (fail)); exact (Kd.V_mono (Kd.V_far (p := ⟨gb179, 1, none⟩) (Kd.V_far (p := ⟨gb179, 0, none⟩) (Kd.V_mono HO0_0.out (fun k_ hk => (⟨hk, by exact hk.2⟩ : _ ∧ k_ ≠ gb179))) (fun _ hk => by exact hk.2) (.int .i64 t177)) (fun _ hk => by exact hk.2) (.int .u64 t178)) (fun _ _ => trivial)))); (case side2 => exact (Kd.V_reads' HO0_0.out).2.1); (case side3 => refine (Kd.V_reads' (e := 88) (base := w.heap.size) (ok := fun _ => True) (n := l0_1.length) (c := c0_1) ?_).2.2; exact (by (with_reducible repeat (fail)); exact (Kd.V_mono (Kd.V_far (p := ⟨gb179, 1, none⟩) (Kd.V_far (p := ⟨gb179, 0, none⟩) (Kd.V_mono HO0_1.out (fun k_ hk => (⟨hk, by exact hk.2⟩ : _ ∧ k_ ≠ gb179))) (fun _ hk => by exact hk.2) (.int .i64 t177)) (fun _ hk => by exact hk.2) (.int .u64 t178)) (fun _ _ => trivial)))); (case side4 => exact (Kd.V_reads' HO0_1.out).2.1); (case side5 => refine (Kd.V_reads' (e := 41) (base := w.heap.size) (ok := fun _ => True) (n := l0_3.length) (c := c0_3) ?_).2.2; exact (by (with_reducible repeat (fail)); exact (Kd.V_mono (Kd.V_far (p := ⟨gb179, 1, none⟩) (Kd.V_far (p := ⟨gb179, 0, none⟩) (Kd.V_mono HO0_3.out (fun k_ hk => (⟨hk, by exact hk.2⟩ : _ ∧ k_ ≠ gb179))) (fun _ hk => by exact hk.2) (.int .i64 t177)) (fun _ hk => by exact hk.2) (.int .u64 t178)) (fun _ _ => trivial)))); (case side6 => exact (Kd.V_reads' HO0_3.out).2.1); rintro e w31 ⟨rfl, hb⟩; refine ⟨_, rfl, ?_⟩; replace HO0_0 := Aside0.mk (Kd.V_below (by (with_reducible repeat (fail)); exact (Kd.V_mono (Kd.V_far (p := ⟨gb179, 1, none⟩) (Kd.V_far (p := ⟨gb179, 0, none⟩) (Kd.V_mono HO0_0.out (fun k_ hk => (⟨hk, by exact hk.2⟩ : _ ∧ k_ ≠ gb179))) (fun _ hk => by exact hk.2) (.int .i64 t177)) (fun _ hk => by exact hk.2) (.int .u64 t178)) (fun _ h_ => h_.1))) hb); replace HO0_1 := Aside0.mk (Kd.V_below (by (with_reducible repeat (fail)); exact (Kd.V_mono (Kd.V_far (p := ⟨gb179, 1, none⟩) (Kd.V_far (p := ⟨gb179, 0, none⟩) (Kd.V_mono HO0_1.out (fun k_ hk => (⟨hk, by exact hk.2⟩ : _ ∧ k_ ≠ gb179))) (fun _ hk => by exact hk.2) (.int .i64 t177)) (fun _ hk => by exact hk.2) (.int .u64 t178)) (fun _ h_ => h_.1))) hb); replace HO0_3 := Aside0.mk (Kd.V_below (by (with_reducible repeat (fail)); exact (Kd.V_mono (Kd.V_far (p := ⟨gb179, 1, none⟩) (Kd.V_far (p := ⟨gb179, 0, none⟩) (Kd.V_mono HO0_3.out (fun k_ hk => (⟨hk, by exact hk.2⟩ : _ ∧ k_ ≠ gb179))) (fun _ hk => by exact hk.2) (.int .i64 t177)) (fun _ hk => by exact hk.2) (.int .u64 t178)) (fun _ h_ => h_.1))) hb); replace BK174 := kB_ BK174 hb; replace BK175 := kB_ BK175 hb; replace BK176 := kB_ BK176 hb; replace BK179 := Aside0.mk (blk_below (g := gb179) (o := .cells #[.int .i64 t177, .int .u64 t178] 34 (0, 0)) (kP_ BK179.out) hb); replace HB := hB_ hb; (try clear hb)))
    go_loopg [2, 11] k (fun kq v2 v11 w' => ∃ (x2_1 : ByteArray) (x11_1 : Int) (x175000_1 : List (S83)) (x175001_1 : List (S88)) (u175000 : Value) (u175001 : Value), v2 = .string x2_1 ∧ v11 = .int .u64 x11_1 ∧ Aside0 (gmem_put.l0 kq x2_1 x11_1 x175000_1 x175001_1 a0_2 l0_3 = some (r1, r2, r3, r4, r5, r6)) ∧ Aside0 (kq ≤ k) ∧ Aside0 (Kd.V k83 83 w' w.heap.size (fun k_ => ((P0_0_ k_ ∨ P0_1_ k_ ∨ P0_3_ k_) ∨ w.heap.size ≤ k_) ∧ k_ ≠ gb174 ∧ k_ ≠ gb175 ∧ k_ ≠ gb176 ∧ k_ ≠ gb179) u175000 x175000_1) ∧ Aside0 (Kd.V k88 88 w' w.heap.size (fun k_ => ((P0_0_ k_ ∨ P0_1_ k_ ∨ P0_3_ k_) ∨ w.heap.size ≤ k_) ∧ k_ ≠ gb174 ∧ k_ ≠ gb175 ∧ k_ ≠ gb176 ∧ k_ ≠ gb179) u175001 x175001_1) ∧ Aside0 (Kd.V k41 41 w' w.heap.size (fun k_ => ((P0_0_ k_ ∨ P0_1_ k_ ∨ P0_3_ k_) ∨ w.heap.size ≤ k_) ∧ k_ ≠ gb174 ∧ k_ ≠ gb175 ∧ k_ ≠ gb176 ∧ k_ ≠ gb179) (.slice A0_3 l0_3.length c0_3) l0_3) ∧ Aside0 (w'.heap[gb174]? = some (.cells #[u175000, u175001, .int .u64 a0_2, (.slice A0_3 l0_3.length c0_3)] 29 (0, 0))) ∧ Aside0 (w'.heap[gb175]? = some (.cells #[(.slice none 0 0), (.slice none 0 0), .int .u64 0, (.slice none 0 0)] 29 (0, 0))) ∧ Aside0 (w'.heap[gb176]? = some (.cells #[.int .i64 0, .int .u64 0] 34 (0, 0))) ∧ Aside0 (w'.heap[gb179]? = some (.cells #[.int .i64 t177, .int .u64 t178] 34 (0, 0))) ∧ Aside0 (Below w.heap.size w w'))
    case atStart => exact ⟨(a2), (t180), (l0_0), (l0_1), (.slice A0_0 l0_0.length c0_0), (.slice A0_1 l0_1.length c0_1), r1_, r1_, H', ⟨Nat.le_refl _⟩, ⟨vM_ HO0_0.out⟩, ⟨vM_ HO0_1.out⟩, ⟨vM_ HO0_3.out⟩, ⟨bT_ BK174.out⟩, ⟨bT_ BK175.out⟩, ⟨bT_ BK176.out⟩, ⟨bT_ BK179.out⟩, ⟨beT_⟩⟩
    case round =>
      clear H'
      try clear c5b0
      try clear c5b1
      try clear c16b0
      try clear c16b1
      try clear hcz23_0
      try clear hcz23_1
      try clear hcz23_2
      try clear hcz23_3
      try clear hcz29_0
      try clear hcz29_1
      try clear hcz30_0
      try clear hcz30_1
      try clear hcz30_2
      try clear hcz30_3
      try clear hfz23_0
      try clear hfz23_1
      try clear hfz23_2
      try clear hfz23_3
      try clear hfz29_0
      try clear hfz29_1
      try clear hfz30_0
      try clear hfz30_1
      try clear hfz30_2
      try clear hfz30_3
      obtain ⟨x2_1, x11_1, x175000_1, x175001_1, u175000, u175001, rfl, rfl, HA, HK1, HO_175000, HO_175001, HO_175003, BK174, BK175, BK176, BK179, HB⟩ := hrel
      cases gk with
      | zero => exact absurd HA.out (by simp [gmem_put.l0])
      | succ k1 =>
        have H := HA.out
        clear HA
        simp only [gmem_put.l0] at H
        by_cases c32 : (x2_1.size : Int) > 0
        · rw [if_pos c32] at H
          have c32b0 : decide (0 < (x2_1.size : Int)) = true := decide_eq_true c32
          have c32b1 : decide (0 < x2_1.size) = true := decide_eq_true (by omega)
          clear c32
          obtain ⟨ji33, hji33⟩ : ∃ j_ : Int, (mn (x2_1.size : Int) 8) = j_ := ⟨_, rfl⟩
          replace H : (if 0 ≤ (ji33) then (if (ji33) ≤ (x2_1.size : Int) then ((swap_Le.f (x2_1.extract 0 ((ji33) : Int).toNat)).bind fun t181 => ((host_Store.f x175000_1 x175001_1 x11_1 (ji33) t181).bind fun bt182 => (gmem_put.l0 k1 (x2_1.extract ((ji33) : Int).toNat x2_1.size) (IntKind.u64.wrap (x11_1 + (ji33))) bt182.1 bt182.2.1 a0_2 l0_3))) else (none)) else (none)) = some (r1, r2, r3, r4, r5, r6) := by (rw [hji33] at H; exact H)
          have hji33_ : (if 8 < (x2_1.size : Int) then 8 else (x2_1.size : Int)) = ji33 := hji33
          by_cases c34 : 0 ≤ (ji33)
          · rw [if_pos c34] at H
            have c34b0 := eq_true c34
            have c34b1 : decide (0 ≤ (ji33)) = true := decide_eq_true c34
            clear c34
            by_cases c35 : (ji33) ≤ (x2_1.size : Int)
            · rw [if_pos c35] at H
              have c35b0 := eq_true c35
              have c35b1 : decide ((ji33) ≤ (x2_1.size : Int)) = true := decide_eq_true c35
              clear c35
              replace H := Option.bind_eq_some_iff.mp H
              obtain ⟨t181, A360, H⟩ := H
              have A36 := Aside0.mk A360
              clear A360
              replace H := Option.bind_eq_some_iff.mp H
              obtain ⟨⟨t182, t185, t188, t189⟩, A370, H⟩ := H
              have A37 := Aside0.mk A370
              clear A370
              have c38b0 := eq_true (dT_ : 0 ≤ (ji33))
              have c39b0 := eq_true (dT_ : (ji33) ≤ (x2_1.size : Int))
              have H' := Aside0.mk H
              clear H
              try go_wp2
              replace HO_175000 := Aside0.mk (Kd.V_drew HO_175000.out)
              replace HO_175001 := Aside0.mk (Kd.V_drew HO_175001.out)
              replace HO_175003 := Aside0.mk (Kd.V_drew HO_175003.out)
              replace BK174 := Aside0.mk (blk_drew BK174.out)
              replace BK175 := Aside0.mk (blk_drew BK175.out)
              replace BK176 := Aside0.mk (blk_drew BK176.out)
              replace BK179 := Aside0.mk (blk_drew BK179.out)
              replace HB := Aside0.mk (below_drew1 HB.out)
              refine start_ (n := 14) (S := fun w' => w'.cell? ⟨gb174, 0, none⟩ = some (u175000) ∧ w'.cell? ⟨gb174, 1, none⟩ = some (u175001) ∧ w'.cell? ⟨gb174, 2, none⟩ = some (.int .u64 a0_2) ∧ w'.cell? ⟨gb174, 3, none⟩ = some (.slice A0_3 l0_3.length c0_3)) (ds := [13]) (mb_ 14 0) (by kernel_rfl) rfl rfl ⟨(blk_cell BK174.out 0).trans rfl, (blk_cell BK174.out 1).trans rfl, (blk_cell BK174.out 2).trans rfl, (blk_cell BK174.out 3).trans rfl⟩ (fun hHeld => ?_); refine with_tabW gmem_put.tab9 gmem_put.bits9 (fun HT_ HW_ => ?_)
              generalize wr.drew = w40 at HO_175000 HO_175001 HO_175003 BK174 BK175 BK176 BK179 HB hHeld ⊢
              refine pS_ 0 39 (mb_ 14 1) ?_
              refine pS_ 2 41 (mb_ 14 5) ?_
              refine pS_ 3 42 (mb_ 14 13) ?_
              refine pS_ 4 43 (mb_ 14 29) ?_
              refine pS_ 5 44 (mb_ 14 61) ?_
              refine pS_ 6 45 (mb_ 14 125) ?_
              refine t4S_ 1 40 (mb_ 14 127) ?_
              refine one_ (i := 7) (N := some 46) (mb_ 14 255) rfl rfl (one_of HT_.out (by kernel_rfl)) (by decide) (fun K hK => ?_)
              refine goes_ Try.func77 (by kernel_rfl) rfl #[.string (x2_1.extract 0 ((ji33) : Int).toNat)] (by rfl) rfl rfl (by (try simp only [List.map_toArray, List.map_cons, List.map_nil]); rfl) ?_
              with_reducible refine (swap_Le.calls (x2_1.extract 0 ((ji33) : Int).toNat) t181 _ A36.out).mono ?_
              rintro e w41 ⟨rfl, hb⟩
              refine ⟨_, rfl, ?_⟩
              replace HO_175000 := vB_ HO_175000.out hb
              replace HO_175001 := vB_ HO_175001.out hb
              replace HO_175003 := vB_ HO_175003.out hb
              replace BK174 := kB_ BK174 hb
              replace BK175 := kB_ BK175 hb
              replace BK176 := kB_ BK176 hb
              replace BK179 := kB_ BK179 hb
              replace HB := hB_ hb
              (try clear hb)
              obtain ⟨Ao42, co42, eo42⟩ := Kd.V_slice HO_175000.out
              (subst eo42)
              obtain ⟨Ao43, co43, eo43⟩ := Kd.V_slice HO_175001.out
              (subst eo43)
              refine hK.out _ _ ⟨(blk_cell BK174.out 0).trans rfl, (blk_cell BK174.out 1).trans rfl, (blk_cell BK174.out 2).trans rfl, (blk_cell BK174.out 3).trans rfl⟩ (fun hHeld => ?_)
              clear hK K
              refine nS_ ?_
              refine one_ (i := 8) (N := some 47) (mb_ 14 511) rfl rfl (one_of HT_.out (by kernel_rfl)) (by decide) (fun K hK => ?_)
              refine goes_ Try.func76 (by kernel_rfl) rfl #[.agg #[.slice Ao42 x175000_1.length co42, .slice Ao43 x175001_1.length co43], .int .u64 x11_1, .int .i64 ji33, .int .u64 t181] (by rfl) rfl rfl (by (try simp only [List.map_toArray, List.map_cons, List.map_nil]); rfl) ?_
              with_reducible refine (host_Store.calls (fun k_ => (((P0_0_ k_ ∨ P0_1_ k_ ∨ P0_3_ k_) ∨ w.heap.size ≤ k_) ∧ (k_ ≠ gb174 ∧ (k_ ≠ gb175 ∧ (k_ ≠ gb176 ∧ k_ ≠ gb179))))) _ _ x175000_1 (fun k_ => (((P0_0_ k_ ∨ P0_1_ k_ ∨ P0_3_ k_) ∨ w.heap.size ≤ k_) ∧ (k_ ≠ gb174 ∧ (k_ ≠ gb175 ∧ (k_ ≠ gb176 ∧ k_ ≠ gb179))))) _ _ x175001_1 x11_1 ji33 t181 t182 t185 t188 t189 _ ?side1 ?side2 A37.out).mono ?_
              (case side1 => exact HO_175000.out)
              (case side2 => exact HO_175001.out)
              rintro e w44 ⟨v183, v186, rfl, ho0, ho1, hb⟩
              refine ⟨_, rfl, ?_⟩
              have HO184 := Aside0.mk (Kd.V_lower (Kd.V_mono (ok' := fun k_ => ((P0_0_ k_ ∨ P0_1_ k_ ∨ P0_3_ k_) ∨ w.heap.size ≤ k_) ∧ k_ ≠ gb174 ∧ k_ ≠ gb175 ∧ k_ ≠ gb176 ∧ k_ ≠ gb179) ho0 (fun k_ hk_ => ⟨Or.elim hk_ (fun hs_ => Or.elim hs_ (fun hs_ => hs_.1) (fun hs_ => hs_.1)) (fun hn_ => (.inr (Nat.le_trans (below_size beT_) hn_))), Or.elim hk_ (fun hs_ => Or.elim hs_ (fun hs_ => hs_.2.1) (fun hs_ => hs_.2.1)) (fun hn_ => (Kd.freshB (g := gb174) (o := .cells #[.slice Ao42 x175000_1.length co42, .slice Ao43 x175001_1.length co43, .int .u64 a0_2, .slice A0_3 l0_3.length c0_3] 29 (0, 0)) (bT_ BK174.out) k_ hn_)), Or.elim hk_ (fun hs_ => Or.elim hs_ (fun hs_ => hs_.2.2.1) (fun hs_ => hs_.2.2.1)) (fun hn_ => (Kd.freshB (g := gb175) (o := .cells #[.slice none 0 0, .slice none 0 0, .int .u64 0, .slice none 0 0] 29 (0, 0)) (bT_ BK175.out) k_ hn_)), Or.elim hk_ (fun hs_ => Or.elim hs_ (fun hs_ => hs_.2.2.2.1) (fun hs_ => hs_.2.2.2.1)) (fun hn_ => (Kd.freshB (g := gb176) (o := .cells #[.int .i64 0, .int .u64 0] 34 (0, 0)) (bT_ BK176.out) k_ hn_)), Or.elim hk_ (fun hs_ => Or.elim hs_ (fun hs_ => hs_.2.2.2.2) (fun hs_ => hs_.2.2.2.2)) (fun hn_ => (Kd.freshB (g := gb179) (o := .cells #[.int .i64 t177, .int .u64 t178] 34 (0, 0)) (bT_ BK179.out) k_ hn_))⟩)) (below_size beT_))
              have HO187 := Aside0.mk (Kd.V_lower (Kd.V_mono (ok' := fun k_ => ((P0_0_ k_ ∨ P0_1_ k_ ∨ P0_3_ k_) ∨ w.heap.size ≤ k_) ∧ k_ ≠ gb174 ∧ k_ ≠ gb175 ∧ k_ ≠ gb176 ∧ k_ ≠ gb179) ho1 (fun k_ hk_ => ⟨Or.elim hk_ (fun hs_ => Or.elim hs_ (fun hs_ => hs_.1) (fun hs_ => hs_.1)) (fun hn_ => (.inr (Nat.le_trans (below_size beT_) hn_))), Or.elim hk_ (fun hs_ => Or.elim hs_ (fun hs_ => hs_.2.1) (fun hs_ => hs_.2.1)) (fun hn_ => (Kd.freshB (g := gb174) (o := .cells #[.slice Ao42 x175000_1.length co42, .slice Ao43 x175001_1.length co43, .int .u64 a0_2, .slice A0_3 l0_3.length c0_3] 29 (0, 0)) (bT_ BK174.out) k_ hn_)), Or.elim hk_ (fun hs_ => Or.elim hs_ (fun hs_ => hs_.2.2.1) (fun hs_ => hs_.2.2.1)) (fun hn_ => (Kd.freshB (g := gb175) (o := .cells #[.slice none 0 0, .slice none 0 0, .int .u64 0, .slice none 0 0] 29 (0, 0)) (bT_ BK175.out) k_ hn_)), Or.elim hk_ (fun hs_ => Or.elim hs_ (fun hs_ => hs_.2.2.2.1) (fun hs_ => hs_.2.2.2.1)) (fun hn_ => (Kd.freshB (g := gb176) (o := .cells #[.int .i64 0, .int .u64 0] 34 (0, 0)) (bT_ BK176.out) k_ hn_)), Or.elim hk_ (fun hs_ => Or.elim hs_ (fun hs_ => hs_.2.2.2.2) (fun hs_ => hs_.2.2.2.2)) (fun hn_ => (Kd.freshB (g := gb179) (o := .cells #[.int .i64 t177, .int .u64 t178] 34 (0, 0)) (bT_ BK179.out) k_ hn_))⟩)) (below_size beT_))
              replace HO_175000 := vB_ HO_175000.out hb
              replace HO_175001 := vB_ HO_175001.out hb
              replace HO_175003 := vB_ HO_175003.out hb
              replace BK174 := kB_ BK174 hb
              replace BK175 := kB_ BK175 hb
              replace BK176 := kB_ BK176 hb
              replace BK179 := kB_ BK179 hb
              replace HB := hB_ hb
              (try clear hb)
              (try clear ho0)
              (try clear ho1)
              obtain ⟨Ao45, co45, eo45⟩ := Kd.V_slice HO184.out
              (subst eo45)
              obtain ⟨Ao47, co47, eo47⟩ := Kd.V_slice HO187.out
              (subst eo47)
              refine hK.out _ _ ⟨(blk_cell BK174.out 0).trans rfl, (blk_cell BK174.out 1).trans rfl, (blk_cell BK174.out 2).trans rfl, (blk_cell BK174.out 3).trans rfl⟩ (fun hHeld => ?_)
              clear hK K
              refine nS_ ?_
              refine pS_ 9 38 (mb_ 14 1023) ?_
              refine pS_ 10 48 (mb_ 14 2047) ?_
              refine pS_ 11 49 (mb_ 14 4095) ?_
              refine pS_ 12 50 (mb_ 14 8191) ?_
              refine last_ (i := 13) (N := none) (mb_ 14 16383) rfl rfl (one_of HT_.out (by kernel_rfl)) (by decide) (fun K hK => ?_)
              have hs46 : w44.cell? ⟨gb174, 0, none⟩ = some (.slice Ao42 x175000_1.length co42) := (blk_cell BK174.out 0).trans rfl
              have hfs46 := blk_frozen BK174.out 0
              have hns46_1 := NB175_174.out
              have hns46_2 := NB176_174.out
              have hns46_3 := NB179_174.out
              have hms46_1 := NB174_175.out
              have hms46_2 := NB174_176.out
              have hms46_3 := NB174_179.out
              have hs48 : w44.cell? ⟨gb174, 1, none⟩ = some (.slice Ao43 x175001_1.length co43) := (blk_cell BK174.out 1).trans rfl
              have hfs48 := blk_frozen BK174.out 1
              have hns48_1 := NB175_174.out
              have hns48_2 := NB176_174.out
              have hns48_3 := NB179_174.out
              have hms48_1 := NB174_175.out
              have hms48_2 := NB174_176.out
              have hms48_3 := NB174_179.out
              refine skip_ (w1 := ?_) (by rfl) rfl ?_ ?_
              rotate_left
              · go_simp
                rfl
              refine hK.out _ _ ?_
              clear hK K
              refine done_ (done_of HT_.out (by kernel_rfl)) ?_
              try go_wp2
              have n0_ : Aside0 (Kd.V k83 83 ((w44.setCell ⟨gb174, 0, none⟩ (.slice Ao45 t182.length co45)).setCell ⟨gb174, 1, none⟩ (.slice Ao47 t185.length co47)) w.heap.size (fun k_ => ((P0_0_ k_ ∨ P0_1_ k_ ∨ P0_3_ k_) ∨ w.heap.size ≤ k_) ∧ k_ ≠ gb174 ∧ k_ ≠ gb175 ∧ k_ ≠ gb176 ∧ k_ ≠ gb179) (.slice Ao42 x175000_1.length co42) x175000_1) := ⟨vF_ HO_175000.out⟩
              have n1_ : Aside0 (Kd.V k88 88 ((w44.setCell ⟨gb174, 0, none⟩ (.slice Ao45 t182.length co45)).setCell ⟨gb174, 1, none⟩ (.slice Ao47 t185.length co47)) w.heap.size (fun k_ => ((P0_0_ k_ ∨ P0_1_ k_ ∨ P0_3_ k_) ∨ w.heap.size ≤ k_) ∧ k_ ≠ gb174 ∧ k_ ≠ gb175 ∧ k_ ≠ gb176 ∧ k_ ≠ gb179) (.slice Ao43 x175001_1.length co43) x175001_1) := ⟨vF_ HO_175001.out⟩
              have n2_ : Aside0 (Kd.V k41 41 ((w44.setCell ⟨gb174, 0, none⟩ (.slice Ao45 t182.length co45)).setCell ⟨gb174, 1, none⟩ (.slice Ao47 t185.length co47)) w.heap.size (fun k_ => ((P0_0_ k_ ∨ P0_1_ k_ ∨ P0_3_ k_) ∨ w.heap.size ≤ k_) ∧ k_ ≠ gb174 ∧ k_ ≠ gb175 ∧ k_ ≠ gb176 ∧ k_ ≠ gb179) (.slice A0_3 l0_3.length c0_3) l0_3) := ⟨vF_ HO_175003.out⟩
              have n3_ : Aside0 (Kd.V k83 83 ((w44.setCell ⟨gb174, 0, none⟩ (.slice Ao45 t182.length co45)).setCell ⟨gb174, 1, none⟩ (.slice Ao47 t185.length co47)) w.heap.size (fun k_ => ((P0_0_ k_ ∨ P0_1_ k_ ∨ P0_3_ k_) ∨ w.heap.size ≤ k_) ∧ k_ ≠ gb174 ∧ k_ ≠ gb175 ∧ k_ ≠ gb176 ∧ k_ ≠ gb179) (.slice Ao45 t182.length co45) t182) := ⟨vF_ HO184.out⟩
              have n4_ : Aside0 (Kd.V k88 88 ((w44.setCell ⟨gb174, 0, none⟩ (.slice Ao45 t182.length co45)).setCell ⟨gb174, 1, none⟩ (.slice Ao47 t185.length co47)) w.heap.size (fun k_ => ((P0_0_ k_ ∨ P0_1_ k_ ∨ P0_3_ k_) ∨ w.heap.size ≤ k_) ∧ k_ ≠ gb174 ∧ k_ ≠ gb175 ∧ k_ ≠ gb176 ∧ k_ ≠ gb179) (.slice Ao47 t185.length co47) t185) := ⟨vF_ HO187.out⟩
              have n5_ : Aside0 (((w44.setCell ⟨gb174, 0, none⟩ (.slice Ao45 t182.length co45)).setCell ⟨gb174, 1, none⟩ (.slice Ao47 t185.length co47)).heap[gb174]? = some (.cells #[.slice Ao45 t182.length co45, .slice Ao47 t185.length co47, .int .u64 a0_2, .slice A0_3 l0_3.length c0_3] 29 (0, 0))) := ⟨kP_ BK174.out⟩
              have n6_ : Aside0 (((w44.setCell ⟨gb174, 0, none⟩ (.slice Ao45 t182.length co45)).setCell ⟨gb174, 1, none⟩ (.slice Ao47 t185.length co47)).heap[gb175]? = some (.cells #[.slice none 0 0, .slice none 0 0, .int .u64 0, .slice none 0 0] 29 (0, 0))) := ⟨bfT_ BK175.out⟩
              have n7_ : Aside0 (((w44.setCell ⟨gb174, 0, none⟩ (.slice Ao45 t182.length co45)).setCell ⟨gb174, 1, none⟩ (.slice Ao47 t185.length co47)).heap[gb176]? = some (.cells #[.int .i64 0, .int .u64 0] 34 (0, 0))) := ⟨bfT_ BK176.out⟩
              have n8_ : Aside0 (((w44.setCell ⟨gb174, 0, none⟩ (.slice Ao45 t182.length co45)).setCell ⟨gb174, 1, none⟩ (.slice Ao47 t185.length co47)).heap[gb179]? = some (.cells #[.int .i64 t177, .int .u64 t178] 34 (0, 0))) := ⟨bfT_ BK179.out⟩
              have n9_ : Aside0 (Below w.heap.size w ((w44.setCell ⟨gb174, 0, none⟩ (.slice Ao45 t182.length co45)).setCell ⟨gb174, 1, none⟩ (.slice Ao47 t185.length co47))) := ⟨beT_⟩
              (try clear HO_175000)
              (try clear HO_175001)
              (try clear HO_175003)
              (try clear HO184)
              (try clear HO187)
              (try clear BK174)
              (try clear BK175)
              (try clear BK176)
              (try clear BK179)
              (try clear HB)
              generalize ((w44.setCell ⟨gb174, 0, none⟩ (.slice Ao45 t182.length co45)).setCell ⟨gb174, 1, none⟩ (.slice Ao47 t185.length co47)) = w49 at n0_ n1_ n2_ n3_ n4_ n5_ n6_ n7_ n8_ n9_ ⊢
              have HO_175000 := n0_
              have HO_175001 := n1_
              have HO_175003 := n2_
              have HO184 := n3_
              have HO187 := n4_
              have BK174 := n5_
              have BK175 := n6_
              have BK176 := n7_
              have BK179 := n8_
              have HB := n9_
              clear n0_ n1_ n2_ n3_ n4_ n5_ n6_ n7_ n8_ n9_
              replace HO_175000 := Aside0.mk (Kd.V_drew HO_175000.out)
              replace HO_175001 := Aside0.mk (Kd.V_drew HO_175001.out)
              replace HO_175003 := Aside0.mk (Kd.V_drew HO_175003.out)
              replace HO184 := Aside0.mk (Kd.V_drew HO184.out)
              replace HO187 := Aside0.mk (Kd.V_drew HO187.out)
              replace BK174 := Aside0.mk (blk_drew BK174.out)
              replace BK175 := Aside0.mk (blk_drew BK175.out)
              replace BK176 := Aside0.mk (blk_drew BK176.out)
              replace BK179 := Aside0.mk (blk_drew BK179.out)
              replace HB := Aside0.mk (below_drew1 HB.out)
              refine start_ (n := 9) (S := fun w' => True) (ds := []) (mb_ 9 0) (by kernel_rfl) rfl rfl trivial (fun hHeld => ?_); refine with_tabW gmem_put.tab10 gmem_put.bits10 (fun HT_ HW_ => ?_)
              generalize w49.drew = w50 at HO_175000 HO_175001 HO_175003 HO184 HO187 BK174 BK175 BK176 BK179 HB hHeld ⊢
              refine pS_ 0 51 (mb_ 9 1) ?_
              refine pS_ 1 52 (mb_ 9 3) ?_
              refine pS_ 2 53 (mb_ 9 7) ?_
              refine pS_ 3 54 (mb_ 9 15) ?_
              refine pS_ 4 55 (mb_ 9 31) ?_
              refine pS_ 5 56 (mb_ 9 63) ?_
              refine pS_ 6 57 (mb_ 9 127) ?_
              refine pS_ 7 11 (mb_ 9 255) ?_
              refine pS_ 8 2 (mb_ 9 511) ?_
              refine done_ (done_of HT_.out (by kernel_rfl)) ?_
              try go_wp2
              go_roundg k1
              case measure => have := HK1.out; omega
              case rel => exact ⟨(x2_1.extract ((ji33) : Int).toNat x2_1.size), (IntKind.u64.wrap (x11_1 + (ji33))), (t182), (t185), (.slice Ao45 t182.length co45), (.slice Ao47 t185.length co47), (by rfl), (by (simp only [← hji33, u64w, Int.add_emod_emod, Int.emod_add_emod]; done)), H', ⟨by have := HK1.out; omega⟩, ⟨vT_ HO184.out⟩, ⟨vT_ HO187.out⟩, ⟨vT_ HO_175003.out⟩, ⟨bT_ BK174.out⟩, ⟨bT_ BK175.out⟩, ⟨bT_ BK176.out⟩, ⟨bT_ BK179.out⟩, ⟨beT_⟩⟩
            rw [if_neg c35] at H
            exact absurd H (by simp)
          rw [if_neg c34] at H
          exact absurd H (by simp)
        rw [if_neg c32] at H
        have c32b0 : decide (0 < (x2_1.size : Int)) = false := decide_eq_false c32
        have c32b1 : decide (0 < x2_1.size) = false := decide_eq_false (by omega)
        clear c32
        simp only [Option.some.injEq, Prod.mk.injEq] at H
        obtain ⟨rfl, rfl, rfl, rfl, rfl, rfl⟩ := H
        have hnb51 := NB174_175.out
        have hnc51 := NB175_174.out
        have hnb52 := NB174_176.out
        have hnc52 := NB176_174.out
        have hnb53 := NB174_179.out
        have hnc53 := NB179_174.out
        obtain ⟨hcz54_0, hcz54_1, hcz54_2, hcz54_3, hfz54_0, hfz54_1, hfz54_2, hfz54_3⟩ := b4_ BK174.out
        obtain ⟨Ao55, co55, eo55⟩ := Kd.V_slice HO_175000.out
        subst eo55
        have hnb56 := NB175_176.out
        have hnc56 := NB176_175.out
        have hnb57 := NB175_179.out
        have hnc57 := NB179_175.out
        obtain ⟨hcz58_0, hcz58_1, hcz58_2, hcz58_3, hfz58_0, hfz58_1, hfz58_2, hfz58_3⟩ := b4_ BK175.out
        obtain ⟨Ao59, co59, eo59⟩ := Kd.V_slice HO_175001.out
        subst eo59
        have hnb60 := NB176_179.out
        have hnc60 := NB179_176.out
        obtain ⟨hcz61_0, hcz61_1, hfz61_0, hfz61_1⟩ := b2_ BK176.out
        go_wp2
        refine bodyPost_ret (results_cc rfl _ _ gb175 gb176 29 34 #[.slice Ao55 x175000_1.length co55, .slice Ao59 x175001_1.length co59, .int .u64 a0_2, .slice A0_3 l0_3.length c0_3] #[.int .i64 0, .int .u64 0] (0, 0) (0, 0) _ _ rfl (kP_ BK175.out) Try.underlying29 rfl (by kernel_rfl) rfl (kP_ BK176.out) Try.underlying34 rfl (by kernel_rfl)) rfl ?_
        exact ⟨_, _, _, r3_, (vF_ HO_175000.out), (vF_ HO_175001.out), (vF_ HO_175003.out), beT_⟩
  rw [if_neg c16] at H
  have c16b0 : (t177 == 0) = false := beq_eq_false_iff_ne.mpr c16
  have c16b1 : (t177 != 0) = true := bne_iff_ne.mpr c16
  simp only [Option.some.injEq, Prod.mk.injEq] at H
  obtain ⟨rfl, rfl, rfl, rfl, rfl, rfl⟩ := H
  go_enter Try.func39, Try.ntmps39
  try go_wp2_with (first | ((with_reducible refine gate_dst (N := 4) rfl ?_); refine bE_ 4 #[.slice A0_0 l0_0.length c0_0, .slice A0_1 l0_1.length c0_1, .int .u64 a0_2, .slice A0_3 l0_3.length c0_3] 29 ?_; intro gb174 hg w62 hbox hb; have BK174 := Aside0.mk hbox; have GW174 := geT_ w.heap.size hg; have GE174 := geT_ w.heap.size hg; replace HO0_0 := vE_ HO0_0.out hg hb; replace HO0_1 := vE_ HO0_1.out hg hb; replace HO0_3 := vE_ HO0_3.out hg hb; replace HB := hB_ hb; clear hb hbox hg) | ((with_reducible refine gate_dst (N := 8) rfl ?_); refine bE_ 8 #[.slice none 0 0, .slice none 0 0, .int .u64 0, .slice none 0 0] 29 ?_; intro gb175 hg w63 hbox hb; have BK175 := Aside0.mk hbox; have GW175 := geT_ w.heap.size hg; have GE175 := geT_ w.heap.size hg; have NB174_175 := nlT_ BK174.out hg; have NB175_174 := ngT_ BK174.out hg; replace HO0_0 := vE_ HO0_0.out hg hb; replace HO0_1 := vE_ HO0_1.out hg hb; replace HO0_3 := vE_ HO0_3.out hg hb; replace BK174 := kB_ BK174 hb; replace HB := hB_ hb; clear hb hbox hg) | ((with_reducible refine gate_dst (N := 9) rfl ?_); refine bE_ 9 #[.int .i64 0, .int .u64 0] 34 ?_; intro gb176 hg w64 hbox hb; have BK176 := Aside0.mk hbox; have GW176 := geT_ w.heap.size hg; have GE176 := geT_ w.heap.size hg; have NB174_176 := nlT_ BK174.out hg; have NB176_174 := ngT_ BK174.out hg; have NB175_176 := nlT_ BK175.out hg; have NB176_175 := ngT_ BK175.out hg; replace HO0_0 := vE_ HO0_0.out hg hb; replace HO0_1 := vE_ HO0_1.out hg hb; replace HO0_3 := vE_ HO0_3.out hg hb; replace BK174 := kB_ BK174 hb; replace BK175 := kB_ BK175 hb; replace HB := hB_ hb; clear hb hbox hg; have hnb65 := NB174_175.out; have hnc65 := NB175_174.out; have hnb66 := NB174_176.out; have hnc66 := NB176_174.out; obtain ⟨hcz67_0, hcz67_1, hcz67_2, hcz67_3, hfz67_0, hfz67_1, hfz67_2, hfz67_3⟩ := b4_ BK174.out) | ((with_reducible refine gate_callee (f := 41) rfl ?_); refine gL_ (some 23) Try.func41 #[.agg #[.slice A0_0 l0_0.length c0_0, .slice A0_1 l0_1.length c0_1, .int .u64 a0_2, .slice A0_3 l0_3.length c0_3], .int .u32 a1, .int .i64 (a2.size : Int), .int .i64 a3] ?_; (with_reducible refine (gmem_first.calls _ _ l0_0 _ _ l0_1 a0_2 _ _ l0_3 a1 (a2.size : Int) a3 t177 t178 _ ?side1 ?side2 ?side3 ?side4 ?side5 ?side6 A15.out).mono ?_); (case side1 => exact cT_ (Kd.V_reads' HO0_0.out).2.2); (case side2 => exact (Kd.V_reads' HO0_0.out).2.1); (case side3 => exact cT_ (Kd.V_reads' HO0_1.out).2.2); (case side4 => exact (Kd.V_reads' HO0_1.out).2.1); (case side5 => exact cT_ (Kd.V_reads' HO0_3.out).2.2); (case side6 => exact (Kd.V_reads' HO0_3.out).2.1); rintro e w68 ⟨rfl, hb⟩; refine ⟨_, rfl, ?_⟩; replace HO0_0 := vB_ HO0_0.out hb; replace HO0_1 := vB_ HO0_1.out hb; replace HO0_3 := vB_ HO0_3.out hb; replace BK174 := kB_ BK174 hb; replace BK175 := kB_ BK175 hb; replace BK176 := kB_ BK176 hb; replace HB := hB_ hb; (try clear hb)) | ((with_reducible refine gate_dst (N := 10) rfl ?_); refine bE_ 10 #[.int .i64 0, .int .u64 0] 34 ?_; intro gb179 hg w69 hbox hb; have BK179 := Aside0.mk hbox; have GW179 := geT_ w.heap.size hg; have GE179 := geT_ w.heap.size hg; have NB174_179 := nlT_ BK174.out hg; have NB179_174 := ngT_ BK174.out hg; have NB175_179 := nlT_ BK175.out hg; have NB179_175 := ngT_ BK175.out hg; have NB176_179 := nlT_ BK176.out hg; have NB179_176 := ngT_ BK176.out hg; replace HO0_0 := vE_ HO0_0.out hg hb; replace HO0_1 := vE_ HO0_1.out hg hb; replace HO0_3 := vE_ HO0_3.out hg hb; replace BK174 := kB_ BK174 hb; replace BK175 := kB_ BK175 hb; replace BK176 := kB_ BK176 hb; replace HB := hB_ hb; clear hb hbox hg; have hnb70 := NB179_174.out; have hnc70 := NB174_179.out; have hnb71 := NB179_175.out; have hnc71 := NB175_179.out; have hnb72 := NB179_176.out; have hnc72 := NB176_179.out; obtain ⟨hcz73_0, hcz73_1, hfz73_0, hfz73_1⟩ := b2_ BK179.out))
  have n0_ : Aside0 (Kd.V k83 83 ((w69.setCell ⟨gb179, 0, none⟩ (.int .i64 t177)).setCell ⟨gb179, 1, none⟩ (.int .u64 t178)) w.heap.size (fun k_ => ((P0_0_ k_ ∨ P0_1_ k_ ∨ P0_3_ k_) ∨ w.heap.size ≤ k_) ∧ k_ ≠ gb174 ∧ k_ ≠ gb175 ∧ k_ ≠ gb176 ∧ k_ ≠ gb179) (.slice A0_0 l0_0.length c0_0) l0_0) := ⟨vF_ HO0_0.out⟩
  have n1_ : Aside0 (Kd.V k88 88 ((w69.setCell ⟨gb179, 0, none⟩ (.int .i64 t177)).setCell ⟨gb179, 1, none⟩ (.int .u64 t178)) w.heap.size (fun k_ => ((P0_0_ k_ ∨ P0_1_ k_ ∨ P0_3_ k_) ∨ w.heap.size ≤ k_) ∧ k_ ≠ gb174 ∧ k_ ≠ gb175 ∧ k_ ≠ gb176 ∧ k_ ≠ gb179) (.slice A0_1 l0_1.length c0_1) l0_1) := ⟨vF_ HO0_1.out⟩
  have n2_ : Aside0 (Kd.V k41 41 ((w69.setCell ⟨gb179, 0, none⟩ (.int .i64 t177)).setCell ⟨gb179, 1, none⟩ (.int .u64 t178)) w.heap.size (fun k_ => ((P0_0_ k_ ∨ P0_1_ k_ ∨ P0_3_ k_) ∨ w.heap.size ≤ k_) ∧ k_ ≠ gb174 ∧ k_ ≠ gb175 ∧ k_ ≠ gb176 ∧ k_ ≠ gb179) (.slice A0_3 l0_3.length c0_3) l0_3) := ⟨vF_ HO0_3.out⟩
  have n3_ : Aside0 (((w69.setCell ⟨gb179, 0, none⟩ (.int .i64 t177)).setCell ⟨gb179, 1, none⟩ (.int .u64 t178)).heap[gb174]? = some (.cells #[.slice A0_0 l0_0.length c0_0, .slice A0_1 l0_1.length c0_1, .int .u64 a0_2, .slice A0_3 l0_3.length c0_3] 29 (0, 0))) := ⟨bfT_ BK174.out⟩
  have n4_ : Aside0 (((w69.setCell ⟨gb179, 0, none⟩ (.int .i64 t177)).setCell ⟨gb179, 1, none⟩ (.int .u64 t178)).heap[gb175]? = some (.cells #[.slice none 0 0, .slice none 0 0, .int .u64 0, .slice none 0 0] 29 (0, 0))) := ⟨bfT_ BK175.out⟩
  have n5_ : Aside0 (((w69.setCell ⟨gb179, 0, none⟩ (.int .i64 t177)).setCell ⟨gb179, 1, none⟩ (.int .u64 t178)).heap[gb176]? = some (.cells #[.int .i64 0, .int .u64 0] 34 (0, 0))) := ⟨bfT_ BK176.out⟩
  have n6_ : Aside0 (((w69.setCell ⟨gb179, 0, none⟩ (.int .i64 t177)).setCell ⟨gb179, 1, none⟩ (.int .u64 t178)).heap[gb179]? = some (.cells #[.int .i64 t177, .int .u64 t178] 34 (0, 0))) := ⟨kP_ BK179.out⟩
  have n7_ : Aside0 (Below w.heap.size w ((w69.setCell ⟨gb179, 0, none⟩ (.int .i64 t177)).setCell ⟨gb179, 1, none⟩ (.int .u64 t178))) := ⟨beT_⟩
  (try clear HO0_0)
  (try clear HO0_1)
  (try clear HO0_3)
  (try clear BK174)
  (try clear BK175)
  (try clear BK176)
  (try clear BK179)
  (try clear HB)
  generalize ((w69.setCell ⟨gb179, 0, none⟩ (.int .i64 t177)).setCell ⟨gb179, 1, none⟩ (.int .u64 t178)) = w74 at n0_ n1_ n2_ n3_ n4_ n5_ n6_ n7_ ⊢
  have HO0_0 := n0_
  have HO0_1 := n1_
  have HO0_3 := n2_
  have BK174 := n3_
  have BK175 := n4_
  have BK176 := n5_
  have BK179 := n6_
  have HB := n7_
  clear n0_ n1_ n2_ n3_ n4_ n5_ n6_ n7_
  replace HO0_0 := Aside0.mk (Kd.V_drew HO0_0.out)
  replace HO0_1 := Aside0.mk (Kd.V_drew HO0_1.out)
  replace HO0_3 := Aside0.mk (Kd.V_drew HO0_3.out)
  replace BK174 := Aside0.mk (blk_drew BK174.out)
  replace BK175 := Aside0.mk (blk_drew BK175.out)
  replace BK176 := Aside0.mk (blk_drew BK176.out)
  replace BK179 := Aside0.mk (blk_drew BK179.out)
  replace HB := Aside0.mk (below_drew1 HB.out)
  refine start_ (n := 4) (S := fun w' => w'.cell? ⟨gb174, 0, none⟩ = some (.slice A0_0 l0_0.length c0_0) ∧ w'.cell? ⟨gb174, 1, none⟩ = some (.slice A0_1 l0_1.length c0_1) ∧ w'.cell? ⟨gb174, 2, none⟩ = some (.int .u64 a0_2) ∧ w'.cell? ⟨gb174, 3, none⟩ = some (.slice A0_3 l0_3.length c0_3) ∧ w'.cell? ⟨gb179, 0, none⟩ = some (.int .i64 t177) ∧ w'.cell? ⟨gb179, 1, none⟩ = some (.int .u64 t178)) (ds := []) (mb_ 4 0) (by kernel_rfl) rfl rfl ⟨(blk_cell BK174.out 0).trans rfl, (blk_cell BK174.out 1).trans rfl, (blk_cell BK174.out 2).trans rfl, (blk_cell BK174.out 3).trans rfl, (blk_cell BK179.out 0).trans rfl, (blk_cell BK179.out 1).trans rfl⟩ (fun hHeld => ?_)
  generalize w74.drew = w75 at HO0_0 HO0_1 HO0_3 BK174 BK175 BK176 BK179 HB hHeld ⊢
  refine take_ (i := 0) (N := some 27) (v := ?_) (a' := ?_) (mb_ 4 1) rfl rfl (by kernel_rfl) (fun _ _ _ h => h) (Or.inl ⟨by rfl, ?_⟩) hHeld ?_ ?_
  rotate_left
  · rintro w' ⟨s0, s1, s2, s3, s4, s5⟩
    go_simp
    with_reducible rfl
  rotate_left
  · simp only [Act.put, List.setIfInBounds_toArray, List.set_cons_zero, List.set_cons_succ, i64_w, i32_w]
    rfl
  refine take_ (i := 1) (N := some 28) (v := ?_) (a' := ?_) (mb_ 4 3) rfl rfl (by kernel_rfl) (fun _ _ _ h => h) (Or.inl ⟨by rfl, ?_⟩) hHeld ?_ ?_
  rotate_left
  · rintro w' ⟨s0, s1, s2, s3, s4, s5⟩
    go_simp
    with_reducible rfl
  rotate_left
  · simp only [Act.put, List.setIfInBounds_toArray, List.set_cons_zero, List.set_cons_succ, i64_w, i32_w]
    rfl
  refine one_ (i := 2) (N := none) (mb_ 4 7) rfl rfl (by kernel_rfl) (by decide) (fun K hK => ?_)
  have hs76 : w75.cell? ⟨gb175, 0, none⟩ = some (.slice none 0 0) := (blk_cell BK175.out 0).trans rfl
  have hfs76 := blk_frozen BK175.out 0
  have hns76_0 := NB174_175.out
  have hns76_2 := NB176_175.out
  have hns76_3 := NB179_175.out
  have hms76_0 := NB175_174.out
  have hms76_2 := NB175_176.out
  have hms76_3 := NB175_179.out
  have hs77 : w75.cell? ⟨gb175, 1, none⟩ = some (.slice none 0 0) := (blk_cell BK175.out 1).trans rfl
  have hfs77 := blk_frozen BK175.out 1
  have hns77_0 := NB174_175.out
  have hns77_2 := NB176_175.out
  have hns77_3 := NB179_175.out
  have hms77_0 := NB175_174.out
  have hms77_2 := NB175_176.out
  have hms77_3 := NB175_179.out
  have hs78 : w75.cell? ⟨gb175, 2, none⟩ = some (.int .u64 0) := (blk_cell BK175.out 2).trans rfl
  have hfs78 := blk_frozen BK175.out 2
  have hns78_0 := NB174_175.out
  have hns78_2 := NB176_175.out
  have hns78_3 := NB179_175.out
  have hms78_0 := NB175_174.out
  have hms78_2 := NB175_176.out
  have hms78_3 := NB175_179.out
  have hs79 : w75.cell? ⟨gb175, 3, none⟩ = some (.slice none 0 0) := (blk_cell BK175.out 3).trans rfl
  have hfs79 := blk_frozen BK175.out 3
  have hns79_0 := NB174_175.out
  have hns79_2 := NB176_175.out
  have hns79_3 := NB179_175.out
  have hms79_0 := NB175_174.out
  have hms79_2 := NB175_176.out
  have hms79_3 := NB175_179.out
  refine skip_ (w1 := ?_) (by rfl) rfl ?_ ?_
  rotate_left
  · go_simp
    rfl
  refine hK.out _ _ ⟨((cell_far (p := ⟨gb175, _, none⟩) NB174_175.out _).trans (((cell_far (p := ⟨gb175, _, none⟩) NB174_175.out _).trans (((cell_far (p := ⟨gb175, _, none⟩) NB174_175.out _).trans (((cell_far (p := ⟨gb175, _, none⟩) NB174_175.out _).trans (hHeld.1)))))))), ((cell_far (p := ⟨gb175, _, none⟩) NB174_175.out _).trans (((cell_far (p := ⟨gb175, _, none⟩) NB174_175.out _).trans (((cell_far (p := ⟨gb175, _, none⟩) NB174_175.out _).trans (((cell_far (p := ⟨gb175, _, none⟩) NB174_175.out _).trans (hHeld.2.1)))))))), ((cell_far (p := ⟨gb175, _, none⟩) NB174_175.out _).trans (((cell_far (p := ⟨gb175, _, none⟩) NB174_175.out _).trans (((cell_far (p := ⟨gb175, _, none⟩) NB174_175.out _).trans (((cell_far (p := ⟨gb175, _, none⟩) NB174_175.out _).trans (hHeld.2.2.1)))))))), ((cell_far (p := ⟨gb175, _, none⟩) NB174_175.out _).trans (((cell_far (p := ⟨gb175, _, none⟩) NB174_175.out _).trans (((cell_far (p := ⟨gb175, _, none⟩) NB174_175.out _).trans (((cell_far (p := ⟨gb175, _, none⟩) NB174_175.out _).trans (hHeld.2.2.2.1)))))))), ((cell_far (p := ⟨gb175, _, none⟩) NB179_175.out _).trans (((cell_far (p := ⟨gb175, _, none⟩) NB179_175.out _).trans (((cell_far (p := ⟨gb175, _, none⟩) NB179_175.out _).trans (((cell_far (p := ⟨gb175, _, none⟩) NB179_175.out _).trans (hHeld.2.2.2.2.1)))))))), ((cell_far (p := ⟨gb175, _, none⟩) NB179_175.out _).trans (((cell_far (p := ⟨gb175, _, none⟩) NB179_175.out _).trans (((cell_far (p := ⟨gb175, _, none⟩) NB179_175.out _).trans (((cell_far (p := ⟨gb175, _, none⟩) NB179_175.out _).trans (hHeld.2.2.2.2.2))))))))⟩ (fun hHeld => ?_)
  clear hK K
  refine one_ (i := 3) (N := none) (mb_ 4 15) rfl rfl (by kernel_rfl) (by decide) (fun K hK => ?_)
  have hs80 : w75.cell? ⟨gb176, 0, none⟩ = some (.int .i64 0) := (blk_cell BK176.out 0).trans rfl
  have hfs80 := blk_frozen BK176.out 0
  have hns80_0 := NB174_176.out
  have hns80_1 := NB175_176.out
  have hns80_3 := NB179_176.out
  have hms80_0 := NB176_174.out
  have hms80_1 := NB176_175.out
  have hms80_3 := NB176_179.out
  have hs81 : w75.cell? ⟨gb176, 1, none⟩ = some (.int .u64 0) := (blk_cell BK176.out 1).trans rfl
  have hfs81 := blk_frozen BK176.out 1
  have hns81_0 := NB174_176.out
  have hns81_1 := NB175_176.out
  have hns81_3 := NB179_176.out
  have hms81_0 := NB176_174.out
  have hms81_1 := NB176_175.out
  have hms81_3 := NB176_179.out
  refine skip_ (w1 := ?_) (by rfl) rfl ?_ ?_
  rotate_left
  · go_simp
    rfl
  refine hK.out _ _ ⟨((cell_far (p := ⟨gb176, _, none⟩) NB174_176.out _).trans (((cell_far (p := ⟨gb176, _, none⟩) NB174_176.out _).trans (hHeld.1)))), ((cell_far (p := ⟨gb176, _, none⟩) NB174_176.out _).trans (((cell_far (p := ⟨gb176, _, none⟩) NB174_176.out _).trans (hHeld.2.1)))), ((cell_far (p := ⟨gb176, _, none⟩) NB174_176.out _).trans (((cell_far (p := ⟨gb176, _, none⟩) NB174_176.out _).trans (hHeld.2.2.1)))), ((cell_far (p := ⟨gb176, _, none⟩) NB174_176.out _).trans (((cell_far (p := ⟨gb176, _, none⟩) NB174_176.out _).trans (hHeld.2.2.2.1)))), ((cell_far (p := ⟨gb176, _, none⟩) NB179_176.out _).trans (((cell_far (p := ⟨gb176, _, none⟩) NB179_176.out _).trans (hHeld.2.2.2.2.1)))), ((cell_far (p := ⟨gb176, _, none⟩) NB179_176.out _).trans (((cell_far (p := ⟨gb176, _, none⟩) NB179_176.out _).trans (hHeld.2.2.2.2.2))))⟩ (fun hHeld => ?_)
  clear hK K
  refine done_ (by kernel_rfl) ?_
  try go_wp2
  refine bodyPost_ret (results_cc rfl _ _ gb175 gb176 29 34 #[.slice A0_0 l0_0.length c0_0, .slice A0_1 l0_1.length c0_1, .int .u64 a0_2, .slice A0_3 l0_3.length c0_3] #[.int .i64 t177, .int .u64 t178] (0, 0) (0, 0) _ _ rfl (kP_ BK175.out) Try.underlying29 rfl (by kernel_rfl) rfl (kP_ BK176.out) Try.underlying34 rfl (by kernel_rfl)) rfl ?_
  exact ⟨_, _, _, r3_, (vF_ HO0_0.out), (vF_ HO0_1.out), (vF_ HO0_3.out), beT_⟩

end Go.Proofs.Ytgkjdpdmmlalcaa.F
end
