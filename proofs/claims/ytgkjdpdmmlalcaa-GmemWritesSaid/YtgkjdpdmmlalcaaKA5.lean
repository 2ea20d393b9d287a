import Derived.Test.YtgkjdpdmmlalcaaKZF0
import Derived.Test.YtgkjdpdmmlalcaaKA0
import Derived.Test.YtgkjdpdmmlalcaaKA1HHost2
import Derived.Test.YtgkjdpdmmlalcaaKA2HHost0
import Derived.Test.YtgkjdpdmmlalcaaKA3
import Derived.Test.YtgkjdpdmmlalcaaKA4HHost11
section
namespace Go.Proofs.Ytgkjdpdmmlalcaa.F
open Go.RowKit Go.Shelf Go.Proofs.YtgkjdpdmmlalcaaW.PrintWords Go.Proofs.YtgkjdpdmmlalcaaW.PrintLast Go.Proofs.YtgkjdpdmmlalcaaW.PrintMore
set_option linter.unusedVariables false
set_option linter.unusedSimpArgs false
def fitMap (m : S83) : Bool := decide (m.f0 ≥ 1125899906842624) || (Go.bits .andNot .i64 m.f1 7 != 0)
def fitCell (l0_0 : List S83) (c : S88) : Bool := (!(has mpK (IntKind.u64.wrap (Int.tdiv c.f0 16384)) l0_0) || (Go.bits .and .u64 c.f0 7 != 0)) || (c.f1 == 0)
def fitB (l0_0 : List S83) (l0_1 : List S88) : Bool := risesB mpK l0_0 && (risesB clK l0_1 && (decide (l0_0.length ≤ 64) && (decide (l0_1.length ≤ 131072) && (!(l0_0.any fitMap) && !(l0_1.any (fitCell l0_0))))))
end Go.Proofs.Ytgkjdpdmmlalcaa.F
end
section
namespace Go.Proofs.Ytgkjdpdmmlalcaa.F
open Go.RowKit Go.Shelf Go.Proofs.YtgkjdpdmmlalcaaW.PrintWords Go.Proofs.YtgkjdpdmmlalcaaW.PrintLast Go.Proofs.YtgkjdpdmmlalcaaW.PrintMore
set_option linter.unusedVariables false
def Chain : List World → World → Prop
  | [], _ => True
  | w :: ws, W => Below w.heap.size w W ∧ Chain ws W
theorem Chain.step : ∀ {ws : List World} {W W' : World}, Chain ws W → Below W.heap.size W W' → Chain ws W'
  | [], _, _, _, _ => trivial
  | _ :: _, _, _, h, hb => ⟨h.1.trans (hb.mono h.1.size), Chain.step h.2 hb⟩
theorem Chain.head {w : World} {ws : List World} {W : World} (h : Chain (w :: ws) W) : Below w.heap.size w W := h.1
theorem Chain.tail {w : World} {ws : List World} {W : World} (h : Chain (w :: ws) W) : Chain ws W := h.2
theorem Chain.push {ws : List World} {W : World} (h : Chain ws W) : Chain (W :: ws) W := ⟨Below.refl _ _, h⟩
theorem below_new (W : World) (o : Obj) : Below W.heap.size W (W.alloc o) := (Below.refl _ W).alloc (Nat.le_refl _) o
theorem below_d (W : World) : Below W.heap.size W W.drew := below_drew (Below.refl _ _)
theorem Chain.alloc {ws : List World} {W : World} (h : Chain ws W) (o : Obj) : Chain ws (W.alloc o) := h.step (below_new W o)
theorem Chain.drew {ws : List World} {W : World} (h : Chain ws W) : Chain ws W.drew := h.step (below_d W)
theorem box_cell {w W : World} {b : Nat} {cs : Array Value} {t : TypeId} {fr : Nat × Nat} (k : w.heap[b]? = some (.cells cs t fr)) (h : Below w.heap.size w W) (j : Nat) : W.cell? ⟨b, j, none⟩ = cs[j]? := sblk_cell (blk_below k h) j
def SlV {α : Type} (d : Kd α) (W : World) (v : Value) (l : List α) : Prop := ∃ A c, v = .slice A l.length c ∧ l.length ≤ c ∧ Kd.C d W A l.length l
theorem SlV.below {α : Type} {d : Kd α} {W W' : World} {v : Value} {l : List α} (h : SlV d W v l) (hb : Below W.heap.size W W') : SlV d W' v l := by
  obtain ⟨A, c, e, hc, hC⟩ := h
  exact ⟨A, c, e, hc, Kd.C_below hC hb⟩
theorem SlV.mk {α : Type} {d : Kd α} {W : World} {A : Option Addr} {l : List α} {c : Nat} (hC : Kd.C d W A l.length l) (hc : l.length ≤ c) : SlV d W (.slice A l.length c) l := ⟨A, c, rfl, hc, hC⟩
theorem SlV.view {α : Type} {d : Kd α} {W : World} {A : Option Addr} {l : List α} {c : Nat} (hd : Kd.Heap d) (e base : Nat) (hC : Kd.C d W A l.length l) (hc : l.length ≤ c) : Kd.V d e W base (fun _ => True) (.slice A l.length c) l :=
  Kd.V_mk hc (Kd.F_mono (Kd.C_F hd hC) (fun _ _ => trivial))
theorem SlV.of_view {α : Type} {d : Kd α} {e base : Nat} {W : World} {ok : Nat → Prop} {v : Value} {l : List α} (h : Kd.V d e W base ok v l) : SlV d W v l := by
  obtain ⟨A, c, ev, hc, hF⟩ := h
  exact ⟨A, c, ev, hc, Kd.F_now hF⟩
theorem SlV.nil {α : Type} (d : Kd α) (W : World) : SlV d W (.slice none 0 0) [] := ⟨none, 0, rfl, Nat.le_refl _, Kd.C_nil d W⟩
theorem blk_far2 {w : World} {g b : Nat} {t : TypeId} {cs : Array Value} (h : w.heap[g]? = some (.cells cs t (0, 0))) (hn : g ≠ b) (u v : Value) : ((w.setCell ⟨b, 0, none⟩ u).setCell ⟨b, 1, none⟩ v).heap[g]? = some (.cells cs t (0, 0)) :=
  blk_far (blk_far h hn u) hn v
end Go.Proofs.Ytgkjdpdmmlalcaa.F
end
section
namespace Go.Proofs.Ytgkjdpdmmlalcaa.F
open Go.RowKit Go.Proofs.YtgkjdpdmmlalcaaW.PrintWords Go.Proofs.YtgkjdpdmmlalcaaW.PrintLast Go.Proofs.YtgkjdpdmmlalcaaW.PrintMore
attribute [local go_sem] max2_int min2_int max_two min_two max_three min_three max_four min_four
set_option linter.unusedVariables false
set_option linter.unusedSimpArgs false

def ferryref03_word.l0 : Nat → Int → Int → List (S83) → List (S88) → Option (Int)
  | 0, _, _, _, _ => none
  | k + 1, x1, x5, x278000, x278001 => if x5 < (x278001.length : Int) then (if 0 ≤ x5 then (if ((rd_T88 x278001 x5).f0) = x1 then (some ((rd_T88 x278001 x5).f1)) else (ferryref03_word.l0 k x1 (wrap64 (x5 + 1)) x278000 x278001)) else (none)) else (some 0)
def ferryref03_word.f (k : Nat) (l0_0 : List (S83)) (l0_1 : List (S88)) (a1 : Int) : Option (Int) := ferryref03_word.l0 k a1 0 l0_0 l0_1
set_option maxHeartbeats 8000000 in
set_option maxRecDepth 100000 in
theorem ferryref03_word.calls (k : Nat) (A0_0 : Option Addr) (c0_0 : Nat) (l0_0 : List (S83)) (A0_1 : Option Addr) (c0_1 : Nat) (l0_1 : List (S88)) (a1 : Int) (r : Int) (w : World) (hr0_0 : Kd.C k83 w A0_0 l0_0.length l0_0) (hc0_0 : l0_0.length ≤ c0_0) (hr0_1 : Kd.C k88 w A0_1 l0_1.length l0_1) (hc0_1 : l0_1.length ≤ c0_1) (h : ferryref03_word.f k l0_0 l0_1 a1 = some r) :
    Calls Try.prog 43 #[.agg #[.slice A0_0 l0_0.length c0_0, .slice A0_1 l0_1.length c0_1], .int .u64 a1] w fun e w' => e = .returned (.int .u64 r) ∧ Below w.heap.size w w' := by
  have hu25 := Try.underlying25
  have HR0_0 := Aside0.mk hr0_0
  have HC0_0 := Aside0.mk hc0_0
  clear hr0_0 hc0_0
  have HR0_1 := Aside0.mk hr0_1
  have HC0_1 := Aside0.mk hc0_1
  clear hr0_1 hc0_1
  have HB := Aside0.mk (Below.refl w.heap.size w)
  have H : (ferryref03_word.l0 k a1 0 l0_0 l0_1) = some r := h
  clear h
  have H' := Aside0.mk H
  clear H
  go_enter Try.func43, Try.ntmps43
  go_wp2_with (first | ((with_reducible refine gate_dst (N := 2) rfl ?_); refine bE_ 2 #[.slice A0_0 l0_0.length c0_0, .slice A0_1 l0_1.length c0_1] 25 ?_; intro gb277 hg w3 hbox hb; have BK277 := Aside0.mk hbox; have GW277 := geT_ w.heap.size hg; have GE277 := geT_ w.heap.size hg; replace HB := hB_ hb; clear hb hbox hg))
  go_loopg [5] k (fun kq v5 w' => ∃ (x5_1 : Int), v5 = .int .i64 x5_1 ∧ Aside0 (ferryref03_word.l0 kq a1 x5_1 l0_0 l0_1 = some r) ∧ Aside0 (kq ≤ k) ∧ Aside0 (w'.heap[gb277]? = some (.cells #[(.slice A0_0 l0_0.length c0_0), (.slice A0_1 l0_1.length c0_1)] 25 (0, 0))) ∧ Aside0 (Below w.heap.size w w'))
  case atStart => exact ⟨(0), r1_, H', ⟨Nat.le_refl _⟩, ⟨bT_ BK277.out⟩, ⟨beT_⟩⟩
  case round =>
    clear H'
    try clear p2
    obtain ⟨x5_1, rfl, HA, HK1, BK277, HB⟩ := hrel
    cases gk with
    | zero => exact absurd HA.out (by simp [ferryref03_word.l0])
    | succ k1 =>
      have H := HA.out
      clear HA
      simp only [ferryref03_word.l0] at H
      by_cases c4 : x5_1 < (l0_1.length : Int)
      · rw [if_pos c4] at H
        have c4b0 : decide (x5_1 < (l0_1.length : Int)) = true := decide_eq_true c4
        clear c4
        by_cases c5 : 0 ≤ x5_1
        · rw [if_pos c5] at H
          have c5b0 : decide (0 ≤ x5_1) = true := decide_eq_true c5
          clear c5
          by_cases c6 : ((rd_T88 l0_1 x5_1).f0) = a1
          · rw [if_pos c6] at H
            have c6b0 : (((rd_T88 l0_1 x5_1).f0) == a1) = true := beq_iff_eq.mpr c6
            have c6b1 : (((rd_T88 l0_1 x5_1).f0) != a1) = false := bne_eq_false_iff_eq.mpr c6
            clear c6
            obtain rfl := Option.some.inj H
            obtain ⟨hcz7_0, hcz7_1, hfz7_0, hfz7_1⟩ := b2_ BK277.out
            have p278 : 0 ≤ (x5_1 : Int) := dT_
            have q278 : x5_1 < (l0_1.length : Int) := dT_
            obtain ⟨ad278, e278, hx278_0, hx278_1⟩ := at_T88 HR0_1.out x5_1 p278 q278
            cases e278
            replace hx278_0 := hX_ hx278_0
            replace hx278_1 := hX_ hx278_1
            replace p278 := eq_true p278
            replace q278 := eq_true q278
            have p279 : 0 ≤ (x5_1 : Int) := dT_
            have q279 : x5_1 < (l0_1.length : Int) := dT_
            obtain ⟨ad279, e279, hx279_0, hx279_1⟩ := at_T88 HR0_1.out x5_1 p279 q279
            obtain rfl : ad278 = ad279 := (by injection e279)
            replace hx279_0 := hX_ hx279_0
            replace hx279_1 := hX_ hx279_1
            replace p279 := eq_true p279
            replace q279 := eq_true q279
            go_wp2
            go_ret
            exact ⟨r3_, beT_⟩
          rw [if_neg c6] at H
          have c6b0 : (((rd_T88 l0_1 x5_1).f0) == a1) = false := beq_eq_false_iff_ne.mpr c6
          have c6b1 : (((rd_T88 l0_1 x5_1).f0) != a1) = true := bne_iff_ne.mpr c6
          have H' := Aside0.mk H
          clear H
          obtain ⟨hcz8_0, hcz8_1, hfz8_0, hfz8_1⟩ := b2_ BK277.out
          have p278 : 0 ≤ (x5_1 : Int) := dT_
          have q278 : x5_1 < (l0_1.length : Int) := dT_
          obtain ⟨ad278, e278, hx278_0, hx278_1⟩ := at_T88 HR0_1.out x5_1 p278 q278
          cases e278
          replace hx278_0 := hX_ hx278_0
          replace hx278_1 := hX_ hx278_1
          replace p278 := eq_true p278
          replace q278 := eq_true q278
          go_wp2
          go_roundg k1
          case measure => have := HK1.out; omega
          case rel => exact ⟨(wrap64 (x5_1 + 1)), r1_, H', ⟨by have := HK1.out; omega⟩, ⟨bT_ BK277.out⟩, ⟨beT_⟩⟩
        rw [if_neg c5] at H
        exact absurd H (by simp)
      rw [if_neg c4] at H
      have c4b0 : decide (x5_1 < (l0_1.length : Int)) = false := decide_eq_false c4
      clear c4
      obtain rfl := Option.some.inj H
      obtain ⟨hcz9_0, hcz9_1, hfz9_0, hfz9_1⟩ := b2_ BK277.out
      go_wp2
      go_ret
      exact ⟨r3_, beT_⟩

end Go.Proofs.Ytgkjdpdmmlalcaa.F
end
section
namespace Go.Proofs.Ytgkjdpdmmlalcaa.F
open Go.RowKit Go.Proofs.YtgkjdpdmmlalcaaW.PrintWords Go.Proofs.YtgkjdpdmmlalcaaW.PrintLast Go.Proofs.YtgkjdpdmmlalcaaW.PrintMore
attribute [local go_sem] max2_int min2_int max_two min_two max_three min_three max_four min_four
set_option linter.unusedVariables false
set_option linter.unusedSimpArgs false

def ferryref03_fault.f (k : Nat) (l0_0 : List (S83)) (l0_1 : List (S88)) (a1 : Int) (a2 : Int) : Option (Int) := (ferryref03_Place.f k l0_0 l0_1 (IntKind.u64.wrap (Int.tdiv a1 16384))).bind fun t292 => (if t292 < 0 then (some 1) else (if 0 ≤ t292 then (if t292 < (l0_0.length : Int) then (if (Go.bits .and .i64 ((rd_T83 l0_0 t292).f1) a2) = 0 then (some 2) else (some 0)) else (none)) else (none)))
set_option maxHeartbeats 8000000 in
set_option maxRecDepth 100000 in
theorem ferryref03_fault.calls (k : Nat) (A0_0 : Option Addr) (c0_0 : Nat) (l0_0 : List (S83)) (A0_1 : Option Addr) (c0_1 : Nat) (l0_1 : List (S88)) (a1 : Int) (a2 : Int) (r : Int) (w : World) (hr0_0 : Kd.C k83 w A0_0 l0_0.length l0_0) (hc0_0 : l0_0.length ≤ c0_0) (hr0_1 : Kd.C k88 w A0_1 l0_1.length l0_1) (hc0_1 : l0_1.length ≤ c0_1) (h : ferryref03_fault.f k l0_0 l0_1 a1 a2 = some r) :
    Calls Try.prog 145 #[.agg #[.slice A0_0 l0_0.length c0_0, .slice A0_1 l0_1.length c0_1], .int .u64 a1, .int .i64 a2] w fun e w' => e = .returned (.int .i64 r) ∧ Below w.heap.size w w' := by
  have hu25 := Try.underlying25
  have HR0_0 := Aside0.mk hr0_0
  have HC0_0 := Aside0.mk hc0_0
  clear hr0_0 hc0_0
  have HR0_1 := Aside0.mk hr0_1
  have HC0_1 := Aside0.mk hc0_1
  clear hr0_1 hc0_1
  have HB := Aside0.mk (Below.refl w.heap.size w)
  have H : ((ferryref03_Place.f k l0_0 l0_1 (IntKind.u64.wrap (Int.tdiv a1 16384))).bind fun t292 => (if t292 < 0 then (some 1) else (if 0 ≤ t292 then (if t292 < (l0_0.length : Int) then (if (Go.bits .and .i64 ((rd_T83 l0_0 t292).f1) a2) = 0 then (some 2) else (some 0)) else (none)) else (none)))) = some r := h
  clear h
  replace H := Option.bind_eq_some_iff.mp H
  obtain ⟨t292, A40, H⟩ := H
  have A4 := Aside0.mk A40
  clear A40
  by_cases c5 : t292 < 0
  · rw [if_pos c5] at H
    have c5b0 : decide (t292 < 0) = true := decide_eq_true c5
    clear c5
    obtain rfl := Option.some.inj H
    go_enter Try.func145, Try.ntmps145
    go_wp2_with (first | ((with_reducible refine gate_dst (N := 3) rfl ?_); refine bE_ 3 #[.slice A0_0 l0_0.length c0_0, .slice A0_1 l0_1.length c0_1] 25 ?_; intro gb291 hg w6 hbox hb; have BK291 := Aside0.mk hbox; have GW291 := geT_ w.heap.size hg; have GE291 := geT_ w.heap.size hg; replace HB := hB_ hb; clear hb hbox hg; obtain ⟨hcz7_0, hcz7_1, hfz7_0, hfz7_1⟩ := b2_ BK291.out) | ((with_reducible refine gate_callee (f := 45) rfl ?_); refine gL_ (some 11) Try.func45 #[.agg #[.slice A0_0 l0_0.length c0_0, .slice A0_1 l0_1.length c0_1], .int .u64 (IntKind.u64.wrap (Int.tdiv a1 16384))] ?_; (with_reducible refine (ferryref03_Place.calls k _ _ l0_0 _ _ l0_1 (IntKind.u64.wrap (Int.tdiv a1 16384)) t292 _ ?side1 ?side2 ?side3 ?side4 A4.out).mono ?_); (case side1 => exact cT_ (Kd.C_below HR0_0.out HB.out)); (case side2 => exact HC0_0.out); (case side3 => exact cT_ (Kd.C_below HR0_1.out HB.out)); (case side4 => exact HC0_1.out); rintro e w8 ⟨rfl, hb⟩; refine ⟨_, rfl, ?_⟩; replace BK291 := kB_ BK291 hb; replace HB := hB_ hb; (try clear hb); (try clear hb2); (try clear hk); (try clear hi)))
    go_ret
    exact ⟨r3_, beT_⟩
  rw [if_neg c5] at H
  have c5b0 : decide (t292 < 0) = false := decide_eq_false c5
  clear c5
  by_cases c9 : 0 ≤ t292
  · rw [if_pos c9] at H
    have c9b0 : decide (0 ≤ t292) = true := decide_eq_true c9
    clear c9
    by_cases c10 : t292 < (l0_0.length : Int)
    · rw [if_pos c10] at H
      have c10b0 : decide (t292 < (l0_0.length : Int)) = true := decide_eq_true c10
      clear c10
      by_cases c11 : (Go.bits .and .i64 ((rd_T83 l0_0 t292).f1) a2) = 0
      · rw [if_pos c11] at H
        have c11b0 : ((Go.bits .and .i64 ((rd_T83 l0_0 t292).f1) a2) == 0) = true := beq_iff_eq.mpr c11
        have c11b1 : ((Go.bits .and .i64 ((rd_T83 l0_0 t292).f1) a2) != 0) = false := bne_eq_false_iff_eq.mpr c11
        clear c11
        obtain rfl := Option.some.inj H
        go_enter Try.func145, Try.ntmps145
        go_wp2_with (first | ((with_reducible refine gate_dst (N := 3) rfl ?_); refine bE_ 3 #[.slice A0_0 l0_0.length c0_0, .slice A0_1 l0_1.length c0_1] 25 ?_; intro gb291 hg w12 hbox hb; have BK291 := Aside0.mk hbox; have GW291 := geT_ w.heap.size hg; have GE291 := geT_ w.heap.size hg; replace HB := hB_ hb; clear hb hbox hg; obtain ⟨hcz13_0, hcz13_1, hfz13_0, hfz13_1⟩ := b2_ BK291.out) | ((with_reducible refine gate_callee (f := 45) rfl ?_); refine gL_ (some 11) Try.func45 #[.agg #[.slice A0_0 l0_0.length c0_0, .slice A0_1 l0_1.length c0_1], .int .u64 (IntKind.u64.wrap (Int.tdiv a1 16384))] ?_; (with_reducible refine (ferryref03_Place.calls k _ _ l0_0 _ _ l0_1 (IntKind.u64.wrap (Int.tdiv a1 16384)) t292 _ ?side1 ?side2 ?side3 ?side4 A4.out).mono ?_); (case side1 => exact cT_ (Kd.C_below HR0_0.out HB.out)); (case side2 => exact HC0_0.out); (case side3 => exact cT_ (Kd.C_below HR0_1.out HB.out)); (case side4 => exact HC0_1.out); rintro e w14 ⟨rfl, hb⟩; refine ⟨_, rfl, ?_⟩; replace BK291 := kB_ BK291 hb; replace HB := hB_ hb; (try clear hb); (try clear hb2); (try clear hk); (try clear hi); obtain ⟨hcz15_0, hcz15_1, hfz15_0, hfz15_1⟩ := b2_ BK291.out; have p293 : 0 ≤ (t292 : Int) := dT_; have q293 : t292 < (l0_0.length : Int) := dT_; obtain ⟨ad293, e293, hx293_0, hx293_1⟩ := at_T83 HR0_0.out t292 p293 q293; cases e293; replace hx293_0 := hX_ hx293_0; replace hx293_1 := hX_ hx293_1; replace p293 := eq_true p293; replace q293 := eq_true q293))
        go_ret
        exact ⟨r3_, beT_⟩
      rw [if_neg c11] at H
      have c11b0 : ((Go.bits .and .i64 ((rd_T83 l0_0 t292).f1) a2) == 0) = false := beq_eq_false_iff_ne.mpr c11
      have c11b1 : ((Go.bits .and .i64 ((rd_T83 l0_0 t292).f1) a2) != 0) = true := bne_iff_ne.mpr c11
      obtain rfl := Option.some.inj H
      go_enter Try.func145, Try.ntmps145
      go_wp2_with (first | ((with_reducible refine gate_dst (N := 3) rfl ?_); refine bE_ 3 #[.slice A0_0 l0_0.length c0_0, .slice A0_1 l0_1.length c0_1] 25 ?_; intro gb291 hg w16 hbox hb; have BK291 := Aside0.mk hbox; have GW291 := geT_ w.heap.size hg; have GE291 := geT_ w.heap.size hg; replace HB := hB_ hb; clear hb hbox hg; obtain ⟨hcz17_0, hcz17_1, hfz17_0, hfz17_1⟩ := b2_ BK291.out) | ((with_reducible refine gate_callee (f := 45) rfl ?_); refine gL_ (some 11) Try.func45 #[.agg #[.slice A0_0 l0_0.length c0_0, .slice A0_1 l0_1.length c0_1], .int .u64 (IntKind.u64.wrap (Int.tdiv a1 16384))] ?_; (with_reducible refine (ferryref03_Place.calls k _ _ l0_0 _ _ l0_1 (IntKind.u64.wrap (Int.tdiv a1 16384)) t292 _ ?side1 ?side2 ?side3 ?side4 A4.out).mono ?_); (case side1 => exact cT_ (Kd.C_below HR0_0.out HB.out)); (case side2 => exact HC0_0.out); (case side3 => exact cT_ (Kd.C_below HR0_1.out HB.out)); (case side4 => exact HC0_1.out); rintro e w18 ⟨rfl, hb⟩; refine ⟨_, rfl, ?_⟩; replace BK291 := kB_ BK291 hb; replace HB := hB_ hb; (try clear hb); (try clear hb2); (try clear hk); (try clear hi); obtain ⟨hcz19_0, hcz19_1, hfz19_0, hfz19_1⟩ := b2_ BK291.out; have p293 : 0 ≤ (t292 : Int) := dT_; have q293 : t292 < (l0_0.length : Int) := dT_; obtain ⟨ad293, e293, hx293_0, hx293_1⟩ := at_T83 HR0_0.out t292 p293 q293; cases e293; replace hx293_0 := hX_ hx293_0; replace hx293_1 := hX_ hx293_1; replace p293 := eq_true p293; replace q293 := eq_true q293))
      go_ret
      exact ⟨r3_, beT_⟩
    rw [if_neg c10] at H
    exact absurd H (by simp)
  rw [if_neg c9] at H
  exact absurd H (by simp)

end Go.Proofs.Ytgkjdpdmmlalcaa.F
end
section
namespace Go.Proofs.Ytgkjdpdmmlalcaa.F
theorem cell_twice (w : World) (a : Addr) (u v : Value) (h : (w.cell? a).isSome = true) : ((w.setCell a u).setCell a v).cell? a = some v :=
  World.cell?_setCell_same' _ _ _ (by rw [World.cell?_setCell_same' _ _ _ h]; rfl)
end Go.Proofs.Ytgkjdpdmmlalcaa.F
end
section
namespace Go.Proofs.Ytgkjdpdmmlalcaa.F
open Go.RowKit Go.Proofs.YtgkjdpdmmlalcaaW.PrintWords Go.Proofs.YtgkjdpdmmlalcaaW.PrintLast Go.Proofs.YtgkjdpdmmlalcaaW.PrintMore
attribute [local go_sem] max2_int min2_int max_two min_two max_three min_three max_four min_four
attribute [local go_sem] cell_twice
set_option linter.unusedVariables false
set_option linter.unusedSimpArgs false

def ferryref03_ask.l0 : Nat → Int → Int → Int → Int → List (S83) → List (S88) → Option (Int × Int)
  | 0, _, _, _, _, _, _ => none
  | k + 1, x1, x2, x3, x9, x295000, x295001 => if x9 < x2 then ((ferryref03_fault.f k x295000 x295001 (IntKind.u64.wrap (x1 + (IntKind.u64.wrap (x9)))) x3).bind fun t296 => (if (IntKind.u64.wrap (x1 + (IntKind.u64.wrap (x9)))) < x1 then (if 1 = 0 then (ferryref03_ask.l0 k x1 x2 x3 (wrap64 (x9 + 1)) x295000 x295001) else (some (1, IntKind.u64.wrap (x1 + (IntKind.u64.wrap (x9)))))) else (if t296 = 0 then (ferryref03_ask.l0 k x1 x2 x3 (wrap64 (x9 + 1)) x295000 x295001) else (some (t296, IntKind.u64.wrap (x1 + (IntKind.u64.wrap (x9)))))))) else (some (0, 0))
def ferryref03_ask.f (k : Nat) (l0_0 : List (S83)) (l0_1 : List (S88)) (a1 : Int) (a2 : Int) (a3 : Int) : Option (Int × Int) := ferryref03_ask.l0 k a1 a2 a3 0 l0_0 l0_1
set_option maxHeartbeats 8000000 in
set_option maxRecDepth 100000 in
theorem ferryref03_ask.calls (k : Nat) (A0_0 : Option Addr) (c0_0 : Nat) (l0_0 : List (S83)) (A0_1 : Option Addr) (c0_1 : Nat) (l0_1 : List (S88)) (a1 : Int) (a2 : Int) (a3 : Int) (r1 : Int) (r2 : Int) (w : World) (hr0_0 : Kd.C k83 w A0_0 l0_0.length l0_0) (hc0_0 : l0_0.length ≤ c0_0) (hr0_1 : Kd.C k88 w A0_1 l0_1.length l0_1) (hc0_1 : l0_1.length ≤ c0_1) (h : ferryref03_ask.f k l0_0 l0_1 a1 a2 a3 = some (r1, r2)) :
    Calls Try.prog 108 #[.agg #[.slice A0_0 l0_0.length c0_0, .slice A0_1 l0_1.length c0_1], .int .u64 a1, .int .i64 a2, .int .i64 a3] w fun e w' => e = .returned (.agg #[.int .i64 r1, .int .u64 r2]) ∧ Below w.heap.size w w' := by
  have hu25 := Try.underlying25
  have hu34 := Try.underlying34
  have HR0_0 := Aside0.mk hr0_0
  have HC0_0 := Aside0.mk hc0_0
  clear hr0_0 hc0_0
  have HR0_1 := Aside0.mk hr0_1
  have HC0_1 := Aside0.mk hc0_1
  clear hr0_1 hc0_1
  have HB := Aside0.mk (Below.refl w.heap.size w)
  have H : (ferryref03_ask.l0 k a1 a2 a3 0 l0_0 l0_1) = some (r1, r2) := h
  clear h
  have H' := Aside0.mk H
  clear H
  go_enter Try.func108, Try.ntmps108
  go_wp2_with (first | ((with_reducible refine gate_dst (N := 4) rfl ?_); refine bE_ 4 #[.slice A0_0 l0_0.length c0_0, .slice A0_1 l0_1.length c0_1] 25 ?_; intro gb294 hg w5 hbox hb; have BK294 := Aside0.mk hbox; have GW294 := geT_ w.heap.size hg; have GE294 := geT_ w.heap.size hg; replace HB := hB_ hb; clear hb hbox hg) | ((with_reducible refine gate_dst (N := 8) rfl ?_); refine bE_ 8 #[.int .i64 0, .int .u64 0] 34 ?_; intro gb295 hg w6 hbox hb; have BK295 := Aside0.mk hbox; have GW295 := geT_ w.heap.size hg; have GE295 := geT_ w.heap.size hg; have NB294_295 := nlT_ BK294.out hg; have NB295_294 := ngT_ BK294.out hg; replace BK294 := kB_ BK294 hb; replace HB := hB_ hb; clear hb hbox hg))
  go_loopg [9] k (fun kq v9 w' => ∃ (x9_1 : Int) (x296000_1 : Int) (x296001_1 : Int), v9 = .int .i64 x9_1 ∧ Aside0 (ferryref03_ask.l0 kq a1 a2 a3 x9_1 l0_0 l0_1 = some (r1, r2)) ∧ Aside0 (kq ≤ k) ∧ Aside0 (w'.heap[gb294]? = some (.cells #[(.slice A0_0 l0_0.length c0_0), (.slice A0_1 l0_1.length c0_1)] 25 (0, 0))) ∧ Aside0 (w'.heap[gb295]? = some (.cells #[.int .i64 x296000_1, .int .u64 x296001_1] 34 (0, 0))) ∧ Aside0 (Below w.heap.size w w'))
  case atStart => exact ⟨(0), (0), (0), r1_, H', ⟨Nat.le_refl _⟩, ⟨bT_ BK294.out⟩, ⟨bT_ BK295.out⟩, ⟨beT_⟩⟩
  case round =>
    clear H'
    try clear c1
    try clear p2
    obtain ⟨x9_1, x296000_1, x296001_1, rfl, HA, HK1, BK294, BK295, HB⟩ := hrel
    cases gk with
    | zero => exact absurd HA.out (by simp [ferryref03_ask.l0])
    | succ k1 =>
      have H := HA.out
      clear HA
      simp only [ferryref03_ask.l0] at H
      by_cases c7 : x9_1 < a2
      · rw [if_pos c7] at H
        have c7b0 : decide (x9_1 < a2) = true := decide_eq_true c7
        clear c7
        replace H := Option.bind_eq_some_iff.mp H
        obtain ⟨t296, A80, H⟩ := H
        have A8 := Aside0.mk A80
        clear A80
        by_cases c9 : (IntKind.u64.wrap (a1 + (IntKind.u64.wrap (x9_1)))) < a1
        · rw [if_pos c9] at H
          have c9b0 : decide ((IntKind.u64.wrap (a1 + (IntKind.u64.wrap (x9_1)))) < a1) = true := decide_eq_true c9
          clear c9
          by_cases c10 : 1 = 0
          · exact absurd c10 (by decide)
          rw [if_neg c10] at H
          have c10b0 : (1 == 0) = false := beq_eq_false_iff_ne.mpr c10
          have c10b1 : (1 != 0) = true := bne_iff_ne.mpr c10
          simp only [Option.some.injEq, Prod.mk.injEq] at H
          obtain ⟨rfl, rfl⟩ := H
          have hnb14 := NB294_295.out
          have hnc14 := NB295_294.out
          obtain ⟨hcz15_0, hcz15_1, hfz15_0, hfz15_1⟩ := b2_ BK294.out
          go_wp2_with (first | ((with_reducible refine gate_callee (f := 145) rfl ?_); refine gL_ (some 24) Try.func145 #[.agg #[.slice A0_0 l0_0.length c0_0, .slice A0_1 l0_1.length c0_1], .int .u64 (IntKind.u64.wrap (a1 + (IntKind.u64.wrap (x9_1)))), .int .i64 a3] ?_; (with_reducible refine (ferryref03_fault.calls k1 _ _ l0_0 _ _ l0_1 (IntKind.u64.wrap (a1 + (IntKind.u64.wrap (x9_1)))) a3 t296 _ ?side1 ?side2 ?side3 ?side4 A8.out).mono ?_); (case side1 => exact cT_ (Kd.C_below HR0_0.out HB.out)); (case side2 => exact HC0_0.out); (case side3 => exact cT_ (Kd.C_below HR0_1.out HB.out)); (case side4 => exact HC0_1.out); rintro e w16 ⟨rfl, hb⟩; refine ⟨_, rfl, ?_⟩; replace BK294 := kB_ BK294 hb; replace BK295 := kB_ BK295 hb; replace HB := hB_ hb; (try clear hb); (try clear hb2); (try clear hk); (try clear hi); obtain ⟨hcz17_0, hcz17_1, hfz17_0, hfz17_1⟩ := b2_ BK295.out))
          refine bodyPost_ret (results_cell_row rfl _ _ gb295 34 #[.int .i64 1, .int .u64 (IntKind.u64.wrap (a1 + (IntKind.u64.wrap (x9_1))))] (0, 0) _ rfl (kP_ BK295.out) Try.underlying34 rfl (by kernel_rfl)) rfl ?_
          exact ⟨r3_, beT_⟩
        rw [if_neg c9] at H
        have c9b0 : decide ((IntKind.u64.wrap (a1 + (IntKind.u64.wrap (x9_1)))) < a1) = false := decide_eq_false c9
        clear c9
        by_cases c18 : t296 = 0
        · rw [if_pos c18] at H
          have c18b0 : (t296 == 0) = true := beq_iff_eq.mpr c18
          have c18b1 : (t296 != 0) = false := bne_eq_false_iff_eq.mpr c18
          clear c18
          have H' := Aside0.mk H
          clear H
          have hnb19 := NB294_295.out
          have hnc19 := NB295_294.out
          obtain ⟨hcz20_0, hcz20_1, hfz20_0, hfz20_1⟩ := b2_ BK294.out
          go_wp2_with (first | ((with_reducible refine gate_callee (f := 145) rfl ?_); refine gL_ (some 24) Try.func145 #[.agg #[.slice A0_0 l0_0.length c0_0, .slice A0_1 l0_1.length c0_1], .int .u64 (IntKind.u64.wrap (a1 + (IntKind.u64.wrap (x9_1)))), .int .i64 a3] ?_; (with_reducible refine (ferryref03_fault.calls k1 _ _ l0_0 _ _ l0_1 (IntKind.u64.wrap (a1 + (IntKind.u64.wrap (x9_1)))) a3 t296 _ ?side1 ?side2 ?side3 ?side4 A8.out).mono ?_); (case side1 => exact cT_ (Kd.C_below HR0_0.out HB.out)); (case side2 => exact HC0_0.out); (case side3 => exact cT_ (Kd.C_below HR0_1.out HB.out)); (case side4 => exact HC0_1.out); rintro e w21 ⟨rfl, hb⟩; refine ⟨_, rfl, ?_⟩; replace BK294 := kB_ BK294 hb; replace BK295 := kB_ BK295 hb; replace HB := hB_ hb; (try clear hb); (try clear hb2); (try clear hk); (try clear hi)))
          go_roundg k1
          case measure => have := HK1.out; omega
          case rel => exact ⟨(wrap64 (x9_1 + 1)), (x296000_1), (x296001_1), r1_, H', ⟨by have := HK1.out; omega⟩, ⟨bT_ BK294.out⟩, ⟨bT_ BK295.out⟩, ⟨beT_⟩⟩
        rw [if_neg c18] at H
        have c18b0 : (t296 == 0) = false := beq_eq_false_iff_ne.mpr c18
        have c18b1 : (t296 != 0) = true := bne_iff_ne.mpr c18
        simp only [Option.some.injEq, Prod.mk.injEq] at H
        obtain ⟨rfl, rfl⟩ := H
        have hnb22 := NB294_295.out
        have hnc22 := NB295_294.out
        obtain ⟨hcz23_0, hcz23_1, hfz23_0, hfz23_1⟩ := b2_ BK294.out
        go_wp2_with (first | ((with_reducible refine gate_callee (f := 145) rfl ?_); refine gL_ (some 24) Try.func145 #[.agg #[.slice A0_0 l0_0.length c0_0, .slice A0_1 l0_1.length c0_1], .int .u64 (IntKind.u64.wrap (a1 + (IntKind.u64.wrap (x9_1)))), .int .i64 a3] ?_; (with_reducible refine (ferryref03_fault.calls k1 _ _ l0_0 _ _ l0_1 (IntKind.u64.wrap (a1 + (IntKind.u64.wrap (x9_1)))) a3 t296 _ ?side1 ?side2 ?side3 ?side4 A8.out).mono ?_); (case side1 => exact cT_ (Kd.C_below HR0_0.out HB.out)); (case side2 => exact HC0_0.out); (case side3 => exact cT_ (Kd.C_below HR0_1.out HB.out)); (case side4 => exact HC0_1.out); rintro e w24 ⟨rfl, hb⟩; refine ⟨_, rfl, ?_⟩; replace BK294 := kB_ BK294 hb; replace BK295 := kB_ BK295 hb; replace HB := hB_ hb; (try clear hb); (try clear hb2); (try clear hk); (try clear hi); obtain ⟨hcz25_0, hcz25_1, hfz25_0, hfz25_1⟩ := b2_ BK295.out))
        refine bodyPost_ret (results_cell_row rfl _ _ gb295 34 #[.int .i64 t296, .int .u64 (IntKind.u64.wrap (a1 + (IntKind.u64.wrap (x9_1))))] (0, 0) _ rfl (kP_ BK295.out) Try.underlying34 rfl (by kernel_rfl)) rfl ?_
        exact ⟨r3_, beT_⟩
      rw [if_neg c7] at H
      have c7b0 : decide (x9_1 < a2) = false := decide_eq_false c7
      clear c7
      simp only [Option.some.injEq, Prod.mk.injEq] at H
      obtain ⟨rfl, rfl⟩ := H
      have hnb26 := NB295_294.out
      have hnc26 := NB294_295.out
      obtain ⟨hcz27_0, hcz27_1, hfz27_0, hfz27_1⟩ := b2_ BK295.out
      go_wp2
      refine bodyPost_ret (results_cell_row rfl _ _ gb295 34 #[.int .i64 0, .int .u64 0] (0, 0) _ rfl (kP_ BK295.out) Try.underlying34 rfl (by kernel_rfl)) rfl ?_
      exact ⟨r3_, beT_⟩

end Go.Proofs.Ytgkjdpdmmlalcaa.F
end
section
namespace Go.Proofs.Ytgkjdpdmmlalcaa.F
open Go.RowKit Go.Proofs.YtgkjdpdmmlalcaaW.PrintWords Go.Proofs.YtgkjdpdmmlalcaaW.PrintLast Go.Proofs.YtgkjdpdmmlalcaaW.PrintMore
attribute [local go_sem] max2_int min2_int max_two min_two max_three min_three max_four min_four
attribute [local go_sem] cell_twice
set_option linter.unusedVariables false
set_option linter.unusedSimpArgs false

mutual
def host_ask.l0 : Nat → Int → Int → Int → Int → List (S83) → List (S88) → Option (Int × Int)
  | 0, _, _, _, _, _, _ => none
  | k + 1, x1, x3, x14, x15, x130000, x130001 => if x15 < x14 then ((host_mapAt.f x130000 x130001 (IntKind.u64.wrap (Int.tdiv (IntKind.u64.wrap (x1 + x15)) 16384))).bind fun bt131 => (if bt131.2 = true then (host_ask.j1 k x1 x3 (IntKind.u64.wrap (x1 + x15)) bt131.1 x14 x15 (decide ((IntKind.u64.wrap (x1 + x15)) < x1)) x130000 x130001) else (host_ask.j1 k x1 x3 (IntKind.u64.wrap (x1 + x15)) bt131.1 x14 x15 true x130000 x130001))) else (some (0, 0))
def host_ask.j1 : Nat → Int → Int → Int → Int → Int → Int → Bool → List (S83) → List (S88) → Option (Int × Int)
  | 0, _, _, _, _, _, _, _, _, _ => none
  | k + 1, x1, x3, x10, x11, x14, x15, x28, x130000, x130001 => if x28 = true then (some (1, x10)) else (if 0 ≤ x11 then (if x11 < (x130000.length : Int) then (if (Go.bits .and .i64 ((rd_T83 x130000 x11).f1) x3) = 0 then (some (2, x10)) else (host_ask.l0 k x1 x3 x14 (IntKind.u64.wrap (x15 + 1)) x130000 x130001)) else (none)) else (none))
end
def host_ask.f (k : Nat) (l0_0 : List (S83)) (l0_1 : List (S88)) (a1 : Int) (a2 : Int) (a3 : Int) : Option (Int × Int) := host_ask.l0 k a1 a3 (IntKind.u64.wrap (a2)) 0 l0_0 l0_1
set_option maxHeartbeats 8000000 in
set_option maxRecDepth 100000 in
theorem host_ask.calls (k : Nat) (A0_0 : Option Addr) (c0_0 : Nat) (l0_0 : List (S83)) (A0_1 : Option Addr) (c0_1 : Nat) (l0_1 : List (S88)) (a1 : Int) (a2 : Int) (a3 : Int) (r1 : Int) (r2 : Int) (w : World) (hr0_0 : Kd.C k83 w A0_0 l0_0.length l0_0) (hc0_0 : l0_0.length ≤ c0_0) (hr0_1 : Kd.C k88 w A0_1 l0_1.length l0_1) (hc0_1 : l0_1.length ≤ c0_1) (h : host_ask.f k l0_0 l0_1 a1 a2 a3 = some (r1, r2)) :
    Calls Try.prog 104 #[.agg #[.slice A0_0 l0_0.length c0_0, .slice A0_1 l0_1.length c0_1], .int .u64 a1, .int .i64 a2, .int .i64 a3] w fun e w' => e = .returned (.agg #[.int .i64 r1, .int .u64 r2]) ∧ Below w.heap.size w w' := by
  have hu25 := Try.underlying25
  have hu34 := Try.underlying34
  have HR0_0 := Aside0.mk hr0_0
  have HC0_0 := Aside0.mk hc0_0
  clear hr0_0 hc0_0
  have HR0_1 := Aside0.mk hr0_1
  have HC0_1 := Aside0.mk hc0_1
  clear hr0_1 hc0_1
  have HB := Aside0.mk (Below.refl w.heap.size w)
  have H : (host_ask.l0 k a1 a3 (IntKind.u64.wrap (a2)) 0 l0_0 l0_1) = some (r1, r2) := h
  clear h
  have H' := Aside0.mk H
  clear H
  go_enter Try.func104, Try.ntmps104
  go_wp2_with (first | ((with_reducible refine gate_dst (N := 4) rfl ?_); refine bE_ 4 #[.slice A0_0 l0_0.length c0_0, .slice A0_1 l0_1.length c0_1] 25 ?_; intro gb129 hg w5 hbox hb; have BK129 := Aside0.mk hbox; have GW129 := geT_ w.heap.size hg; have GE129 := geT_ w.heap.size hg; replace HB := hB_ hb; clear hb hbox hg) | ((with_reducible refine gate_dst (N := 8) rfl ?_); refine bE_ 8 #[.int .i64 0, .int .u64 0] 34 ?_; intro gb130 hg w6 hbox hb; have BK130 := Aside0.mk hbox; have GW130 := geT_ w.heap.size hg; have GE130 := geT_ w.heap.size hg; have NB129_130 := nlT_ BK129.out hg; have NB130_129 := ngT_ BK129.out hg; replace BK129 := kB_ BK129 hb; replace HB := hB_ hb; clear hb hbox hg))
  go_loopg [15] k (fun kq v15 w' => ∃ (x15_1 : Int) (x131000_1 : Int) (x131001_1 : Int), v15 = .int .u64 x15_1 ∧ Aside0 (host_ask.l0 kq a1 a3 (IntKind.u64.wrap (a2)) x15_1 l0_0 l0_1 = some (r1, r2)) ∧ Aside0 (kq ≤ k) ∧ Aside0 (w'.heap[gb129]? = some (.cells #[(.slice A0_0 l0_0.length c0_0), (.slice A0_1 l0_1.length c0_1)] 25 (0, 0))) ∧ Aside0 (w'.heap[gb130]? = some (.cells #[.int .i64 x131000_1, .int .u64 x131001_1] 34 (0, 0))) ∧ Aside0 (Below w.heap.size w w'))
  case atStart => exact ⟨(0), (0), (0), r1_, H', ⟨Nat.le_refl _⟩, ⟨bT_ BK129.out⟩, ⟨bT_ BK130.out⟩, ⟨beT_⟩⟩
  case round =>
    clear H'
    try clear c1
    try clear p2
    obtain ⟨x15_1, x131000_1, x131001_1, rfl, HA, HK1, BK129, BK130, HB⟩ := hrel
    cases gk with
    | zero => exact absurd HA.out (by simp [host_ask.l0])
    | succ k1 =>
      have H := HA.out
      clear HA
      simp only [host_ask.l0] at H
      by_cases c7 : x15_1 < (IntKind.u64.wrap (a2))
      · rw [if_pos c7] at H
        have c7b0 : decide (x15_1 < (IntKind.u64.wrap (a2))) = true := decide_eq_true c7
        clear c7
        replace H := Option.bind_eq_some_iff.mp H
        obtain ⟨⟨t131, t132⟩, A80, H⟩ := H
        have A8 := Aside0.mk A80
        clear A80
        have HC9 := Aside0.mk H
        clear H
        have hnb10 := NB129_130.out
        have hnc10 := NB130_129.out
        obtain ⟨hcz11_0, hcz11_1, hfz11_0, hfz11_1⟩ := b2_ BK129.out
        go_upto_region 6 with (first | ((with_reducible refine gate_callee (f := 126) rfl ?_); refine gL_ (some 25) Try.func126 #[.agg #[.slice A0_0 l0_0.length c0_0, .slice A0_1 l0_1.length c0_1], .int .u64 (IntKind.u64.wrap (Int.tdiv (IntKind.u64.wrap (a1 + x15_1)) 16384))] ?_; (with_reducible refine (host_mapAt.calls _ _ l0_0 _ _ l0_1 (IntKind.u64.wrap (Int.tdiv (IntKind.u64.wrap (a1 + x15_1)) 16384)) t131 t132 _ ?side1 ?side2 ?side3 ?side4 A8.out).mono ?_); (case side1 => exact cT_ (Kd.C_below HR0_0.out HB.out)); (case side2 => exact HC0_0.out); (case side3 => exact cT_ (Kd.C_below HR0_1.out HB.out)); (case side4 => exact HC0_1.out); rintro e w12 ⟨rfl, hb⟩; refine ⟨_, rfl, ?_⟩; replace BK129 := kB_ BK129 hb; replace BK130 := kB_ BK130 hb; replace HB := hB_ hb; (try clear hb); (try clear hb2); (try clear hk); (try clear hi)))
        (try simp only [Act.put, List.setIfInBounds_toArray, List.set_cons_zero, List.set_cons_succ])
        go_cut [28] (fun v28 wc => ∃ (kq : Nat) (x28_8 : Bool), v28 = .bool x28_8 ∧ Aside0 (host_ask.j1 kq a1 a3 (IntKind.u64.wrap (a1 + x15_1)) t131 (IntKind.u64.wrap (a2)) x15_1 x28_8 l0_0 l0_1 = some (r1, r2)) ∧ Aside0 (kq ≤ k1) ∧ Aside0 (wc.heap[gb129]? = some (.cells #[(.slice A0_0 l0_0.length c0_0), (.slice A0_1 l0_1.length c0_1)] 25 (0, 0))) ∧ Aside0 (wc.heap[gb130]? = some (.cells #[.int .i64 x131000_1, .int .u64 x131001_1] 34 (0, 0))) ∧ Aside0 (Below w.heap.size w wc))
        case first =>
          have H := HC9.out
          clear HC9
          by_cases c13 : t132 = true
          · subst c13
            replace H := hP_ H
            have H' := Aside0.mk H
            clear H
            go_wp2
            go_meet
            case rel => exact ⟨_, (decide ((IntKind.u64.wrap (a1 + x15_1)) < a1)), r1_, H', ⟨by have := HK1.out; first | omega | exact Nat.le_refl _⟩, ⟨bT_ BK129.out⟩, ⟨bT_ BK130.out⟩, ⟨beT_⟩⟩
          replace c13 := Bool.eq_false_iff.mpr c13
          subst c13
          replace H := hN_ H
          have H' := Aside0.mk H
          clear H
          go_wp2
          go_meet
          case rel => exact ⟨_, (true), r1_, H', ⟨by have := HK1.out; first | omega | exact Nat.le_refl _⟩, ⟨bT_ BK129.out⟩, ⟨bT_ BK130.out⟩, ⟨beT_⟩⟩
        case rest =>
          clear HC9
          try clear c1
          try clear p2
          try clear c7
          try clear c7b0
          try clear c10
          try clear c12
          try clear c13
          try clear hcz11_0
          try clear hcz11_1
          try clear hfz11_0
          try clear hfz11_1
          try clear p2
          obtain ⟨kq, x28_8, rfl, HA, HJ8, BK129, BK130, HB⟩ := hcut
          cases kq with
          | zero => exact absurd HA.out (by simp [host_ask.j1])
          | succ kj8 =>
            have H := HA.out
            clear HA
            simp only [host_ask.j1] at H
            by_cases c14 : x28_8 = true
            · subst c14
              replace H := hP_ H
              simp only [Option.some.injEq, Prod.mk.injEq] at H
              obtain ⟨rfl, rfl⟩ := H
              have hnb15 := NB130_129.out
              have hnc15 := NB129_130.out
              obtain ⟨hcz16_0, hcz16_1, hfz16_0, hfz16_1⟩ := b2_ BK130.out
              go_wp2
              refine bodyPost_ret (results_cell_row rfl _ _ gb130 34 #[.int .i64 1, .int .u64 (IntKind.u64.wrap (a1 + x15_1))] (0, 0) _ rfl (kP_ BK130.out) Try.underlying34 rfl (by kernel_rfl)) rfl ?_
              exact ⟨r3_, beT_⟩
            replace c14 := Bool.eq_false_iff.mpr c14
            subst c14
            replace H := hN_ H
            by_cases c17 : 0 ≤ t131
            · rw [if_pos c17] at H
              have c17b0 : decide (0 ≤ t131) = true := decide_eq_true c17
              clear c17
              by_cases c18 : t131 < (l0_0.length : Int)
              · rw [if_pos c18] at H
                have c18b0 : decide (t131 < (l0_0.length : Int)) = true := decide_eq_true c18
                clear c18
                by_cases c19 : (Go.bits .and .i64 ((rd_T83 l0_0 t131).f1) a3) = 0
                · rw [if_pos c19] at H
                  have c19b0 : ((Go.bits .and .i64 ((rd_T83 l0_0 t131).f1) a3) == 0) = true := beq_iff_eq.mpr c19
                  have c19b1 : ((Go.bits .and .i64 ((rd_T83 l0_0 t131).f1) a3) != 0) = false := bne_eq_false_iff_eq.mpr c19
                  clear c19
                  simp only [Option.some.injEq, Prod.mk.injEq] at H
                  obtain ⟨rfl, rfl⟩ := H
                  have hnb20 := NB129_130.out
                  have hnc20 := NB130_129.out
                  obtain ⟨hcz21_0, hcz21_1, hfz21_0, hfz21_1⟩ := b2_ BK129.out
                  have p133 : 0 ≤ (t131 : Int) := dT_
                  have q133 : t131 < (l0_0.length : Int) := dT_
                  obtain ⟨ad133, e133, hx133_0, hx133_1⟩ := at_T83 HR0_0.out t131 p133 q133
                  cases e133
                  replace hx133_0 := hX_ hx133_0
                  replace hx133_1 := hX_ hx133_1
                  replace p133 := eq_true p133
                  replace q133 := eq_true q133
                  obtain ⟨hcz22_0, hcz22_1, hfz22_0, hfz22_1⟩ := b2_ BK130.out
                  go_wp2
                  refine bodyPost_ret (results_cell_row rfl _ _ gb130 34 #[.int .i64 2, .int .u64 (IntKind.u64.wrap (a1 + x15_1))] (0, 0) _ rfl (kP_ BK130.out) Try.underlying34 rfl (by kernel_rfl)) rfl ?_
                  exact ⟨r3_, beT_⟩
                rw [if_neg c19] at H
                have c19b0 : ((Go.bits .and .i64 ((rd_T83 l0_0 t131).f1) a3) == 0) = false := beq_eq_false_iff_ne.mpr c19
                have c19b1 : ((Go.bits .and .i64 ((rd_T83 l0_0 t131).f1) a3) != 0) = true := bne_iff_ne.mpr c19
                have H' := Aside0.mk H
                clear H
                have hnb23 := NB129_130.out
                have hnc23 := NB130_129.out
                obtain ⟨hcz24_0, hcz24_1, hfz24_0, hfz24_1⟩ := b2_ BK129.out
                have p133 : 0 ≤ (t131 : Int) := dT_
                have q133 : t131 < (l0_0.length : Int) := dT_
                obtain ⟨ad133, e133, hx133_0, hx133_1⟩ := at_T83 HR0_0.out t131 p133 q133
                cases e133
                replace hx133_0 := hX_ hx133_0
                replace hx133_1 := hX_ hx133_1
                replace p133 := eq_true p133
                replace q133 := eq_true q133
                go_wp2
                go_roundg kj8
                case measure => have := HK1.out; have := HJ8.out; omega
                case rel => exact ⟨(IntKind.u64.wrap (x15_1 + 1)), (x131000_1), (x131001_1), r1_, H', ⟨by have := HK1.out; have := HJ8.out; omega⟩, ⟨bT_ BK129.out⟩, ⟨bT_ BK130.out⟩, ⟨beT_⟩⟩
              rw [if_neg c18] at H
              exact absurd H (by simp)
            rw [if_neg c17] at H
            exact absurd H (by simp)
      rw [if_neg c7] at H
      have c7b0 : decide (x15_1 < (IntKind.u64.wrap (a2))) = false := decide_eq_false c7
      clear c7
      simp only [Option.some.injEq, Prod.mk.injEq] at H
      obtain ⟨rfl, rfl⟩ := H
      have hnb25 := NB130_129.out
      have hnc25 := NB129_130.out
      obtain ⟨hcz26_0, hcz26_1, hfz26_0, hfz26_1⟩ := b2_ BK130.out
      go_wp2
      refine bodyPost_ret (results_cell_row rfl _ _ gb130 34 #[.int .i64 0, .int .u64 0] (0, 0) _ rfl (kP_ BK130.out) Try.underlying34 rfl (by kernel_rfl)) rfl ?_
      exact ⟨r3_, beT_⟩

end Go.Proofs.Ytgkjdpdmmlalcaa.F
end
section
namespace Go.Proofs.Ytgkjdpdmmlalcaa.F
open Go.RowKit Go.Proofs.YtgkjdpdmmlalcaaW.PrintWords Go.Proofs.YtgkjdpdmmlalcaaW.PrintLast Go.Proofs.YtgkjdpdmmlalcaaW.PrintMore
attribute [local go_sem] max2_int min2_int max_two min_two max_three min_three max_four min_four
set_option linter.unusedVariables false
set_option linter.unusedSimpArgs false

def host_word.f (l0_0 : List (S83)) (l0_1 : List (S88)) (a1 : Int) : Option (Int) := (host_cellAt.f l0_0 l0_1 a1).bind fun bt135 => (if bt135.2 = true then (if 0 ≤ bt135.1 then (if bt135.1 < (l0_1.length : Int) then (some ((rd_T88 l0_1 bt135.1).f1)) else (none)) else (none)) else (some 0))
set_option maxHeartbeats 8000000 in
set_option maxRecDepth 100000 in
theorem host_word.calls (A0_0 : Option Addr) (c0_0 : Nat) (l0_0 : List (S83)) (A0_1 : Option Addr) (c0_1 : Nat) (l0_1 : List (S88)) (a1 : Int) (r : Int) (w : World) (hr0_0 : Kd.C k83 w A0_0 l0_0.length l0_0) (hc0_0 : l0_0.length ≤ c0_0) (hr0_1 : Kd.C k88 w A0_1 l0_1.length l0_1) (hc0_1 : l0_1.length ≤ c0_1) (h : host_word.f l0_0 l0_1 a1 = some r) :
    Calls Try.prog 107 #[.agg #[.slice A0_0 l0_0.length c0_0, .slice A0_1 l0_1.length c0_1], .int .u64 a1] w fun e w' => e = .returned (.int .u64 r) ∧ Below w.heap.size w w' := by
  have hu25 := Try.underlying25
  have HR0_0 := Aside0.mk hr0_0
  have HC0_0 := Aside0.mk hc0_0
  clear hr0_0 hc0_0
  have HR0_1 := Aside0.mk hr0_1
  have HC0_1 := Aside0.mk hc0_1
  clear hr0_1 hc0_1
  have HB := Aside0.mk (Below.refl w.heap.size w)
  have H : ((host_cellAt.f l0_0 l0_1 a1).bind fun bt135 => (if bt135.2 = true then (if 0 ≤ bt135.1 then (if bt135.1 < (l0_1.length : Int) then (some ((rd_T88 l0_1 bt135.1).f1)) else (none)) else (none)) else (some 0))) = some r := h
  clear h
  replace H := Option.bind_eq_some_iff.mp H
  obtain ⟨⟨t135, t136⟩, A30, H⟩ := H
  have A3 := Aside0.mk A30
  clear A30
  by_cases c4 : t136 = true
  · subst c4
    replace H := hP_ H
    by_cases c5 : 0 ≤ t135
    · rw [if_pos c5] at H
      have c5b0 : decide (0 ≤ t135) = true := decide_eq_true c5
      clear c5
      by_cases c6 : t135 < (l0_1.length : Int)
      · rw [if_pos c6] at H
        have c6b0 : decide (t135 < (l0_1.length : Int)) = true := decide_eq_true c6
        clear c6
        obtain rfl := Option.some.inj H
        go_enter Try.func107, Try.ntmps107
        go_wp2_with (first | ((with_reducible refine gate_dst (N := 2) rfl ?_); refine bE_ 2 #[.slice A0_0 l0_0.length c0_0, .slice A0_1 l0_1.length c0_1] 25 ?_; intro gb134 hg w7 hbox hb; have BK134 := Aside0.mk hbox; have GW134 := geT_ w.heap.size hg; have GE134 := geT_ w.heap.size hg; replace HB := hB_ hb; clear hb hbox hg; obtain ⟨hcz8_0, hcz8_1, hfz8_0, hfz8_1⟩ := b2_ BK134.out) | ((with_reducible refine gate_callee (f := 144) rfl ?_); refine gL_ (some 10) Try.func144 #[.agg #[.slice A0_0 l0_0.length c0_0, .slice A0_1 l0_1.length c0_1], .int .u64 a1] ?_; (with_reducible refine (host_cellAt.calls _ _ l0_0 _ _ l0_1 a1 t135 true _ ?side1 ?side2 ?side3 ?side4 A3.out).mono ?_); (case side1 => exact cT_ (Kd.C_below HR0_0.out HB.out)); (case side2 => exact HC0_0.out); (case side3 => exact cT_ (Kd.C_below HR0_1.out HB.out)); (case side4 => exact HC0_1.out); rintro e w9 ⟨rfl, hb⟩; refine ⟨_, rfl, ?_⟩; replace BK134 := kB_ BK134 hb; replace HB := hB_ hb; (try clear hb); (try clear hb2); (try clear hk); (try clear hi); obtain ⟨hcz10_0, hcz10_1, hfz10_0, hfz10_1⟩ := b2_ BK134.out; have p137 : 0 ≤ (t135 : Int) := dT_; have q137 : t135 < (l0_1.length : Int) := dT_; obtain ⟨ad137, e137, hx137_0, hx137_1⟩ := at_T88 HR0_1.out t135 p137 q137; cases e137; replace hx137_0 := hX_ hx137_0; replace hx137_1 := hX_ hx137_1; replace p137 := eq_true p137; replace q137 := eq_true q137))
        go_ret
        exact ⟨r3_, beT_⟩
      rw [if_neg c6] at H
      exact absurd H (by simp)
    rw [if_neg c5] at H
    exact absurd H (by simp)
  replace c4 := Bool.eq_false_iff.mpr c4
  subst c4
  replace H := hN_ H
  obtain rfl := Option.some.inj H
  go_enter Try.func107, Try.ntmps107
  go_wp2_with (first | ((with_reducible refine gate_dst (N := 2) rfl ?_); refine bE_ 2 #[.slice A0_0 l0_0.length c0_0, .slice A0_1 l0_1.length c0_1] 25 ?_; intro gb134 hg w11 hbox hb; have BK134 := Aside0.mk hbox; have GW134 := geT_ w.heap.size hg; have GE134 := geT_ w.heap.size hg; replace HB := hB_ hb; clear hb hbox hg; obtain ⟨hcz12_0, hcz12_1, hfz12_0, hfz12_1⟩ := b2_ BK134.out) | ((with_reducible refine gate_callee (f := 144) rfl ?_); refine gL_ (some 10) Try.func144 #[.agg #[.slice A0_0 l0_0.length c0_0, .slice A0_1 l0_1.length c0_1], .int .u64 a1] ?_; (with_reducible refine (host_cellAt.calls _ _ l0_0 _ _ l0_1 a1 t135 false _ ?side1 ?side2 ?side3 ?side4 A3.out).mono ?_); (case side1 => exact cT_ (Kd.C_below HR0_0.out HB.out)); (case side2 => exact HC0_0.out); (case side3 => exact cT_ (Kd.C_below HR0_1.out HB.out)); (case side4 => exact HC0_1.out); rintro e w13 ⟨rfl, hb⟩; refine ⟨_, rfl, ?_⟩; replace BK134 := kB_ BK134 hb; replace HB := hB_ hb; (try clear hb); (try clear hb2); (try clear hk); (try clear hi)))
  go_ret
  exact ⟨r3_, beT_⟩

end Go.Proofs.Ytgkjdpdmmlalcaa.F
end
section
namespace Go.Proofs.Ytgkjdpdmmlalcaa.Opens
open Go.ChangeShapes Go.WideShapes Go.RowKit Go.Deep
open Go.Proofs.YtgkjdpdmmlalcaaW.PrintWords

def Opens {α : Type} (P : Program) (t : TypeId) (d : Kd α) (wf : α → Prop) : Prop :=
  P.cellsOf t = d.sz ∧ ∀ {H : Type} (enc : TypeId × Value → H) (w : World) (base : Nat) (spare : Nat → Bool) (held : Bool) (fuel : Nat) (cs : List Value) (x : DataW H × List MemPlace),
    DataW.trod enc P w base spare held fuel t cs = some x → ∃ a : α, d.K w a cs ∧ wf a
theorem opens_int {P : Program} {t : TypeId} {k : IntKind} (hc : P.cellsOf t = 1) (ht : P.underlying t = some (.int k)) : Opens P t (Kd.int k) (fun n => (Lit.int k n).wf = true) :=
  ⟨hc, fun enc w base spare held fuel cs x h => by
    obtain ⟨n, rfl, _, hw⟩ := DataW.trod_int ht h
    exact ⟨n, rfl, hw⟩⟩
theorem add_add (a : Addr) (i j : Nat) : (a.add i).add j = a.add (i + j) := by
  obtain ⟨b, o, s⟩ := a
  unfold Addr.add
  by_cases h1 : i = 0
  · subst h1
    simp
  by_cases h2 : j = 0
  · subst h2
    simp [h1]
  · simp [h1, h2, Nat.add_assoc]
theorem list_of {α : Type} {p : Nat → α → Prop} : ∀ (n : Nat), (∀ i, i < n → ∃ a, p i a) → ∃ l : List α, l.length = n ∧ ∀ (i : Nat) (a : α), l[i]? = some a → p i a
  | 0, _ => ⟨[], rfl, fun i a h => by simp at h⟩
  | n + 1, h => by
    obtain ⟨l, hl, hp⟩ := list_of n (fun i hi => h i (by omega))
    obtain ⟨a, ha⟩ := h n (by omega)
    refine ⟨l ++ [a], by simp [hl], fun i b hb => ?_⟩
    rcases Nat.lt_or_ge i n with hi | hi
    · rw [List.getElem?_append_left (by omega)] at hb
      exact hp i b hb
    · rw [List.getElem?_append_right (by omega)] at hb
      have : i = n := by
        rcases Nat.lt_or_ge (i - l.length) 1 with h1 | h1
        · omega
        · rw [List.getElem?_eq_none (by simpa using h1)] at hb
          cases hb
      subst this
      simp [hl] at hb
      subst hb
      exact ha
theorem opens_slice {α : Type} {P : Program} {t e : TypeId} {d : Kd α} {wf : α → Prop} (hc : P.cellsOf t = 1) (ht : P.underlying t = some (.slice e)) (he : Opens P e d wf) :
    Opens P t (Kd.slice e d) (fun l => l.length ≤ 9223372036854775807 ∧ ∀ x ∈ l, wf x) :=
  ⟨hc, fun enc w base spare held fuel cs x h => by
    rcases open_slice ht h with ⟨rfl, _⟩ | ⟨a, len, cap, m, n, D, Pl, rfl, _, hl, hm, hmm, _, hx⟩
    · exact ⟨[], ⟨none, 0, rfl, Nat.le_refl _, Kd.C_nil d w⟩, by simp, by simp⟩
    · have hlm : len ≤ m := by rw [hmm]; split <;> omega
      obtain ⟨l, hll, hp⟩ := list_of (p := fun i (y : α) => wf y ∧ ∃ c, c.length = d.sz ∧ d.K w y c ∧ ∀ (j : Nat) (u : Value), c[j]? = some u → w.cell? (a.add (i * d.sz + j)) = some u) len (fun i hi => by
        obtain ⟨cs', h1, h2⟩ := hx i (by omega)
        obtain ⟨y, hK, hw⟩ := he.2 enc w base spare held n cs' _ h2
        obtain ⟨_, hlen, hcell⟩ := World.cells?_some h1
        refine ⟨y, hw, cs', d.K_len hK, hK, fun j u hu => ?_⟩
        have hj : j < cs'.length := by
          rcases Nat.lt_or_ge j cs'.length with h' | h'
          · exact h'
          · rw [List.getElem?_eq_none h'] at hu
            cases hu
        have z := hcell j (by omega)
        rw [hu] at z
        rw [← he.1, ← z]
        congr 1
        exact (add_add a _ _).symm)
      have hmax : len ≤ 9223372036854775807 := by unfold maxLen at hm; omega
      refine ⟨l, ⟨some a, cap, by rw [hll], by omega, hll ▸ rfl, by omega, fun _ => ⟨a, rfl, fun j p hj => ?_⟩⟩, by omega, fun y hy => ?_⟩
      · exact (hp j p hj).2
      · obtain ⟨i, hi, e⟩ := List.getElem_of_mem hy
        exact (hp i y (by rw [List.getElem?_eq_getElem hi, e])).1⟩

structure OpensF {α : Type} (P : Program) (fl : List Field) (off : Nat) (d : Kd α) (wf : α → Prop) : Prop where
  out : ∀ {H : Type} (enc : TypeId × Value → H) (w : World) (base : Nat) (spare : Nat → Bool) (held : Bool) (fuel : Nat) (cs : List Value), cs.length = off + d.sz →
    (∀ (i : Nat) (f : Field), fl[i]? = some f → ∃ y, DataW.trod enc P w base spare held fuel f.type ((cs.drop f.offset).take (P.cellsOf f.type)) = some y) → ∃ a : α, d.K w a (cs.drop off) ∧ wf a
theorem opens_one {α : Type} {P : Program} {f : Field} {off : Nat} {d : Kd α} {wf : α → Prop} (ho : f.offset = off) (h : Opens P f.type d wf) : OpensF P [f] off d wf := by
  constructor
  intro H enc w base spare held fuel cs hl hf
  obtain ⟨y, hy⟩ := hf 0 f rfl
  obtain ⟨a, hK, hw⟩ := h.2 enc w base spare held fuel _ y hy
  have e : (cs.drop f.offset).take (P.cellsOf f.type) = cs.drop off := by
    rw [ho]
    apply List.take_of_length_le
    rw [h.1, List.length_drop]
    omega
  rw [e] at hK
  exact ⟨a, hK, hw⟩
theorem opens_cons {α β : Type} {P : Program} {f : Field} {fl : List Field} {off : Nat} {d : Kd α} {d' : Kd β} {wf : α → Prop} {wf' : β → Prop} (ho : f.offset = off) (h : Opens P f.type d wf) (hr : OpensF P fl (off + d.sz) d' wf') :
    OpensF P (f :: fl) off (Kd.pair d d') (fun x => wf x.1 ∧ wf' x.2) := by
  constructor
  intro H enc w base spare held fuel cs hl hf
  have hl' : cs.length = off + (d.sz + d'.sz) := hl
  obtain ⟨y, hy⟩ := hf 0 f rfl
  obtain ⟨a, hK, hw⟩ := h.2 enc w base spare held fuel _ y hy
  obtain ⟨b, hK', hw'⟩ := hr.out enc w base spare held fuel cs (by omega) (fun i g hg => hf (i + 1) g (by simpa using hg))
  refine ⟨(a, b), ⟨(cs.drop off).take d.sz, cs.drop (off + d.sz), ?_, ?_, hK'⟩, hw, hw'⟩
  · rw [← List.drop_drop, List.take_append_drop]
  · rw [ho, h.1] at hK
    exact hK
theorem opens_struct {α : Type} {P : Program} {t : TypeId} {fs : Array Field} {d : Kd α} {wf : α → Prop} (hc : P.cellsOf t = d.sz) (ht : P.underlying t = some (.struct fs)) (h : OpensF P fs.toList 0 d wf) : Opens P t d wf :=
  ⟨hc, fun enc w base spare held fuel cs x hx => by
    obtain ⟨xs, n, _, _, hl, hlen, hf⟩ := DataW.trod_struct ht hx
    have z := h.out enc w base spare held n cs (by omega) (fun i f hi => by
      have hi' : fs[i]? = some f := by simpa using hi
      have hlt : i < fs.size := by
        rcases Nat.lt_or_ge i fs.size with h' | h'
        · exact h'
        · rw [Array.getElem?_eq_none h'] at hi'
          cases hi'
      rw [hf i f hi', List.getElem?_eq_getElem (by omega)]
      exact ⟨_, rfl⟩)
    simpa using z⟩
theorem opens_iso {α β : Type} {P : Program} {t : TypeId} {d : Kd α} {wf : α → Prop} {f : β → α} (g : α → β) (hg : ∀ a, f (g a) = a) (h : Opens P t d wf) : Opens P t (Kd.iso d f) (fun b => wf (f b)) :=
  ⟨h.1, fun enc w base spare held fuel cs x hx => by
    obtain ⟨a, hK, hw⟩ := h.2 enc w base spare held fuel cs x hx
    exact ⟨g a, by show d.K w (f (g a)) cs; rw [hg]; exact hK, by show wf (f (g a)); rw [hg]; exact hw⟩⟩

theorem Opens.imp {α : Type} {P : Program} {t : TypeId} {d : Kd α} {wf wf' : α → Prop} (h : Opens P t d wf) (hi : ∀ a, wf a → wf' a) : Opens P t d wf' :=
  ⟨h.1, fun enc w base spare held fuel cs x hx => by
    obtain ⟨a, hK, hw⟩ := h.2 enc w base spare held fuel cs x hx
    exact ⟨a, hK, hi a hw⟩⟩
theorem wf_u32 {n : Int} (h : (Lit.int .u32 n).wf = true) : 0 ≤ n ∧ n ≤ 4294967295 := by
  simp only [Lit.wf, Bool.and_eq_true, decide_eq_true_eq] at h
  exact ⟨h.1, h.2⟩
theorem opens_u32 {P : Program} {t : TypeId} (hc : P.cellsOf t = 1) (ht : P.underlying t = some (.int .u32)) : Opens P t (Kd.int .u32) (fun n => 0 ≤ n ∧ n ≤ 4294967295) := (opens_int hc ht).imp (fun _ h => wf_u32 h)
theorem wf_u64 {n : Int} (h : (Lit.int .u64 n).wf = true) : 0 ≤ n ∧ n ≤ 18446744073709551615 := by
  simp only [Lit.wf, Bool.and_eq_true, decide_eq_true_eq] at h
  exact ⟨h.1, h.2⟩
theorem opens_u64 {P : Program} {t : TypeId} (hc : P.cellsOf t = 1) (ht : P.underlying t = some (.int .u64)) : Opens P t (Kd.int .u64) (fun n => 0 ≤ n ∧ n ≤ 18446744073709551615) := (opens_int hc ht).imp (fun _ h => wf_u64 h)
theorem wf_i64 {n : Int} (h : (Lit.int .i64 n).wf = true) : (-9223372036854775808) ≤ n ∧ n ≤ 9223372036854775807 := by
  simp only [Lit.wf, Bool.and_eq_true, decide_eq_true_eq] at h
  exact ⟨h.1, h.2⟩
theorem opens_i64 {P : Program} {t : TypeId} (hc : P.cellsOf t = 1) (ht : P.underlying t = some (.int .i64)) : Opens P t (Kd.int .i64) (fun n => (-9223372036854775808) ≤ n ∧ n ≤ 9223372036854775807) := (opens_int hc ht).imp (fun _ h => wf_i64 h)

theorem arg_struct {α H : Type} {P : Program} {w : World} {base b0 : Nat} {r : Reach} {spare : Nat → Bool} {held : Bool} {enc : TypeId × Value → H} {t : TypeId} {fs : Array Field} {d : Kd α} {wf : α → Prop} {v : Value} {x : DataW H} {p : List MemPlace}
    (ht : P.underlying t = some (.struct fs)) (hv : Value.okWide P w r b0 t v) (ho : Opens P t d wf) (h : DataW.Trod enc P w base spare held t v x p) : ∃ (cs : List Value) (a : α), v = .agg cs.toArray ∧ d.K w a cs ∧ wf a := by
  obtain ⟨cs, rfl, hsz⟩ := okWide_struct ht hv
  obtain ⟨fuel, hf⟩ := h
  obtain ⟨a, hK, hw⟩ := ho.2 enc w base spare held fuel _ _ hf
  exact ⟨cs.toList, a, by simp, by simpa [Value.cells] using hK, hw⟩
end Go.Proofs.Ytgkjdpdmmlalcaa.Opens
end
section
namespace Go.Proofs.Ytgkjdpdmmlalcaa.F
open Go.RowKit Go.Proofs.YtgkjdpdmmlalcaaW.PrintWords Go.Proofs.YtgkjdpdmmlalcaaW.PrintLast Go.Proofs.YtgkjdpdmmlalcaaW.PrintMore

def wfS83 (x : S83) : Prop := (0 ≤ x.f0 ∧ x.f0 ≤ 18446744073709551615) ∧ ((-9223372036854775808) ≤ x.f1 ∧ x.f1 ≤ 9223372036854775807)
theorem opens_S83 : Opens.Opens Try.prog 83 k83 wfS83 := Opens.opens_iso (fun a => (⟨a.1, a.2⟩ : S83)) (fun _ => rfl) (Opens.opens_struct (by kernel_rfl) Try.underlying83 (Opens.opens_cons rfl (Opens.opens_u64 (by kernel_rfl) (by kernel_rfl)) (Opens.opens_one rfl (Opens.opens_i64 (by kernel_rfl) (by kernel_rfl)))))
def wfS88 (x : S88) : Prop := (0 ≤ x.f0 ∧ x.f0 ≤ 18446744073709551615) ∧ (0 ≤ x.f1 ∧ x.f1 ≤ 18446744073709551615)
theorem opens_S88 : Opens.Opens Try.prog 88 k88 wfS88 := Opens.opens_iso (fun a => (⟨a.1, a.2⟩ : S88)) (fun _ => rfl) (Opens.opens_struct (by kernel_rfl) Try.underlying88 (Opens.opens_cons rfl (Opens.opens_u64 (by kernel_rfl) (by kernel_rfl)) (Opens.opens_one rfl (Opens.opens_u64 (by kernel_rfl) (by kernel_rfl)))))
def wfS41 (x : S41) : Prop := (0 ≤ x.f0 ∧ x.f0 ≤ 4294967295) ∧ ((-9223372036854775808) ≤ x.f1 ∧ x.f1 ≤ 9223372036854775807)
theorem opens_S41 : Opens.Opens Try.prog 41 k41 wfS41 := Opens.opens_iso (fun a => (⟨a.1, a.2⟩ : S41)) (fun _ => rfl) (Opens.opens_struct (by kernel_rfl) Try.underlying41 (Opens.opens_cons rfl (Opens.opens_u32 (by kernel_rfl) (by kernel_rfl)) (Opens.opens_one rfl (Opens.opens_i64 (by kernel_rfl) (by kernel_rfl)))))
end Go.Proofs.Ytgkjdpdmmlalcaa.F
end
section
namespace Go.Proofs.Ytgkjdpdmmlalcaa.F
open Go.RowKit Go.Proofs.YtgkjdpdmmlalcaaW.PrintWords Go.Proofs.YtgkjdpdmmlalcaaW.PrintLast Go.Proofs.YtgkjdpdmmlalcaaW.PrintMore
theorem u32w (n : Int) : IntKind.u32.wrap n = n % 4294967296 := by simp [IntKind.wrap, IntKind.bits, IntKind.signed]
theorem u64w (n : Int) : IntKind.u64.wrap n = n % 18446744073709551616 := by simp [IntKind.wrap, IntKind.bits, IntKind.signed]
theorem w64_id {n : Int} (h0 : -9223372036854775808 ≤ n) (h1 : n ≤ 9223372036854775807) : wrap64 n = n := by unfold wrap64; omega
theorem u64_keep (n : Int) (h₀ : 0 ≤ n) (h₁ : n < 2 ^ 64) : IntKind.u64.wrap n = n := by rw [u64w]; omega
theorem mask64 {x : Int} (i : Nat) (hi : i ≤ 64) (h0 : 0 ≤ x) (h1 : x ≤ 18446744073709551615) : Go.bits .and .u64 x (2 ^ i - 1) = x % 2 ^ i := bits_mask .u64 64 (by decide) u64_keep i hi x h0 (by omega)
theorem join64 {x y : Int} (i : Nat) (h0 : 0 ≤ x) (h1 : x ≤ 18446744073709551615) (hx : x % 2 ^ i = 0) (h2 : 0 ≤ y) (h3 : y < 2 ^ i) (h4 : y ≤ 18446744073709551615) : Go.bits .or .u64 x y = x + y := bits_join .u64 64 (by decide) u64_keep i x y h0 hx (by omega) h2 h3 (by omega)
theorem bits_nat64 (a b : Nat) (ha : a < 2 ^ 64) (hb : b < 2 ^ 64) : Go.bits .and .u64 a b = ((a &&& b : Nat) : Int) ∧ Go.bits .or .u64 a b = ((a ||| b : Nat) : Int) ∧ Go.bits .xor .u64 a b = ((a ^^^ b : Nat) : Int) := by
  have h := bits_nat .u64 64 (by decide) u64_keep a b ha hb
  refine ⟨h.1, h.2, ?_⟩
  have ha' : a % 2 ^ 64 = a := Nat.mod_eq_of_lt ha
  have hb' : b % 2 ^ 64 = b := Nat.mod_eq_of_lt hb
  have e : (BitVec.ofInt 64 (a : Int) ^^^ BitVec.ofInt 64 (b : Int)).toNat = a ^^^ b := by
    rw [BitVec.ofInt_natCast, BitVec.ofInt_natCast, BitVec.toNat_xor, BitVec.toNat_ofNat, BitVec.toNat_ofNat, ha', hb']
  show IntKind.u64.wrap (((BitVec.ofInt 64 (a : Int) ^^^ BitVec.ofInt 64 (b : Int)).toNat : Nat) : Int) = _
  rw [e]
  have : a ^^^ b < 2 ^ 64 := Nat.xor_lt_two_pow ha hb
  rw [u64w]
  omega
theorem bits_or_comm (k : IntKind) (x y : Int) : Go.bits .or k x y = Go.bits .or k y x := by
  simp only [Go.bits]
  rw [BitVec.or_comm]
end Go.Proofs.Ytgkjdpdmmlalcaa.F
end
section
namespace Go.Proofs.Ytgkjdpdmmlalcaa.F
open Go.RowKit Go.Proofs.YtgkjdpdmmlalcaaW.PrintWords Go.Proofs.YtgkjdpdmmlalcaaW.PrintLast Go.Proofs.YtgkjdpdmmlalcaaW.PrintMore
set_option linter.unusedVariables false
theorem bv_andNot {w : Nat} (x y : BitVec w) : (x &&& ~~~y).toNat + (x &&& y).toNat = x.toNat := by
  have h : (x &&& ~~~y) &&& (x &&& y) = 0#w := by
    ext i hi
    simp
    cases x[i] <;> cases y[i] <;> simp
  rw [← BitVec.toNat_add_of_and_eq_zero h, BitVec.add_eq_or_of_and_eq_zero _ _ h]
  congr 1
  ext i hi
  simp
  cases x[i] <;> cases y[i] <;> simp
theorem andNot64 (a b : Nat) (ha : a < 2 ^ 64) (hb : b < 2 ^ 64) : Go.bits .andNot .u64 a b = (a : Int) - ((a &&& b : Nat) : Int) := by
  have h := bv_andNot (BitVec.ofNat 64 a) (BitVec.ofNat 64 b)
  have e : (BitVec.ofNat 64 a &&& BitVec.ofNat 64 b).toNat = a &&& b := by
    rw [BitVec.toNat_and, BitVec.toNat_ofNat, BitVec.toNat_ofNat, Nat.mod_eq_of_lt ha, Nat.mod_eq_of_lt hb]
  rw [e, BitVec.toNat_ofNat, Nat.mod_eq_of_lt ha] at h
  show IntKind.u64.wrap (((BitVec.ofInt 64 (a : Int) &&& ~~~BitVec.ofInt 64 (b : Int)).toNat : Nat) : Int) = _
  rw [BitVec.ofInt_natCast, BitVec.ofInt_natCast, u64_keep _ (by omega) (by omega)]
  omega
theorem nat_mask_at (x i j : Nat) : x &&& ((2 ^ i - 1) * 2 ^ j) = x / 2 ^ j % 2 ^ i * 2 ^ j := by
  rw [← Nat.shiftLeft_eq, ← Nat.and_two_pow_sub_one_eq_mod, ← Nat.shiftRight_eq_div_pow, ← Nat.shiftLeft_eq]
  apply Nat.eq_of_testBit_eq
  intro k
  simp only [Nat.testBit_and, Nat.testBit_shiftLeft, Nat.testBit_shiftRight, Nat.testBit_two_pow_sub_one]
  by_cases h : j ≤ k
  · simp [h]
  simp [h]
theorem without64 {x : Int} (i j : Nat) (hij : i + j ≤ 64) (h0 : 0 ≤ x) (h1 : x ≤ 18446744073709551615) : Go.bits .andNot .u64 x ((2 ^ i - 1) * 2 ^ j) = x - x / 2 ^ j % 2 ^ i * 2 ^ j := by
  obtain ⟨n, rfl⟩ := Int.eq_ofNat_of_zero_le h0
  have hp : 0 < 2 ^ i := Nat.two_pow_pos i
  have e : (((2 : Int) ^ i - 1) * 2 ^ j) = (((2 ^ i - 1) * 2 ^ j : Nat) : Int) := by
    rw [Int.natCast_mul, Int.natCast_sub hp]
    simp
  have hb : (2 ^ i - 1) * 2 ^ j < 2 ^ 64 := by
    have h2 : (2 ^ i - 1) * 2 ^ j < 2 ^ i * 2 ^ j := Nat.mul_lt_mul_of_pos_right (by omega) (Nat.two_pow_pos j)
    rw [← Nat.pow_add] at h2
    exact Nat.lt_of_lt_of_le h2 (Nat.pow_le_pow_right (by decide) hij)
  rw [e, andNot64 n _ (by omega) hb, nat_mask_at]
  simp
end Go.Proofs.Ytgkjdpdmmlalcaa.F
end
section
set_option linter.unusedVariables false
namespace Go.Proofs.Ytgkjdpdmmlalcaa.F
def byteAt (w : Nat) (k : Nat) : Nat := w / 256 ^ k % 256
def leN : Nat → (Nat → Nat) → Nat
  | 0, _ => 0
  | n + 1, f => f 0 + 256 * leN n (fun i => f (i + 1))
theorem pos256 (n : Nat) : 0 < 256 ^ n := Nat.pow_pos (by decide)
theorem leN_congr : ∀ {n : Nat} {f g : Nat → Nat}, (∀ i, i < n → f i = g i) → leN n f = leN n g
  | 0, _, _, _ => rfl
  | n + 1, f, g, h => by
    unfold leN
    rw [h 0 (by omega), leN_congr (n := n) (fun i hi => h (i + 1) (by omega))]
theorem leN_bytes : ∀ (n o w : Nat), leN n (fun i => byteAt w (o + i)) = w / 256 ^ o % 256 ^ n
  | 0, o, w => by simp [leN, Nat.mod_one]
  | n + 1, o, w => by
    unfold leN
    have e : (fun i => byteAt w (o + (i + 1))) = fun i => byteAt w ((o + 1) + i) := by
      funext i
      rw [Nat.add_assoc, Nat.add_comm 1 i]
    rw [e, leN_bytes n (o + 1) w]
    show byteAt w (o + 0) + 256 * (w / 256 ^ (o + 1) % 256 ^ n) = _
    rw [Nat.add_zero]
    unfold byteAt
    rw [Nat.pow_succ 256 o, ← Nat.div_div_eq_div_mul, Nat.pow_succ 256 n, Nat.mul_comm (256 ^ n) 256, Nat.mod_mul]
theorem word_bytes {w : Nat} (h : w < 256 ^ 8) : leN 8 (byteAt w) = w := by
  have := leN_bytes 8 0 w
  simp only [Nat.zero_add, Nat.pow_zero, Nat.div_one] at this
  rw [this, Nat.mod_eq_of_lt h]
theorem word_ext {w x : Nat} (hw : w < 256 ^ 8) (hx : x < 256 ^ 8) (h : ∀ k, k < 8 → byteAt w k = byteAt x k) : w = x := by
  rw [← word_bytes hw, ← word_bytes hx]
  exact leN_congr h
theorem byteAt_lt (w k : Nat) : byteAt w k < 256 := Nat.mod_lt _ (by decide)
theorem byteAt_join {a o c : Nat} (ha : a < 256 ^ o) (k : Nat) : byteAt (a + 256 ^ o * c) k = if k < o then byteAt a k else byteAt c (k - o) := by
  unfold byteAt
  by_cases hk : k < o
  · rw [if_pos hk]
    have e : 256 ^ o = 256 ^ k * (256 * 256 ^ (o - k - 1)) := by
      rw [← Nat.mul_assoc, ← Nat.pow_succ, ← Nat.pow_add]
      congr 1
      omega
    rw [e, Nat.mul_assoc, Nat.add_mul_div_left _ _ (pos256 k), Nat.mul_assoc, Nat.add_mul_mod_self_left]
  rw [if_neg hk]
  have e : 256 ^ k = 256 ^ o * 256 ^ (k - o) := by
    rw [← Nat.pow_add]
    congr 1
    omega
  rw [e, ← Nat.div_div_eq_div_mul, Nat.add_mul_div_left _ _ (pos256 o), Nat.div_eq_of_lt ha, Nat.zero_add]
theorem byteAt_mod (w o k : Nat) (hk : k < o) : byteAt (w % 256 ^ o) k = byteAt w k := by
  have h := byteAt_join (a := w % 256 ^ o) (c := w / 256 ^ o) (Nat.mod_lt _ (pos256 o)) k
  rw [Nat.mod_add_div, if_pos hk] at h
  exact h.symm
theorem byteAt_div (w o k : Nat) : byteAt (w / 256 ^ o) k = byteAt w (o + k) := by
  unfold byteAt
  rw [Nat.div_div_eq_div_mul, ← Nat.pow_add]
def putIn (w o m v : Nat) : Nat := w % 256 ^ o + 256 ^ o * (v % 256 ^ m + 256 ^ m * (w / 256 ^ (o + m)))
theorem byteAt_putIn (w o m v k : Nat) : byteAt (putIn w o m v) k = if k < o then byteAt w k else if k < o + m then byteAt v (k - o) else byteAt w k := by
  unfold putIn
  rw [byteAt_join (Nat.mod_lt _ (pos256 o))]
  by_cases h1 : k < o
  · rw [if_pos h1, if_pos h1, byteAt_mod _ _ _ h1]
  rw [if_neg h1, if_neg h1, byteAt_join (Nat.mod_lt _ (pos256 m))]
  by_cases h2 : k < o + m
  · rw [if_pos h2, if_pos (by omega), byteAt_mod _ _ _ (by omega)]
  rw [if_neg h2, if_neg (by omega), byteAt_div]
  congr 1
  omega
theorem putIn_lt {w o m v : Nat} (h : w < 256 ^ 8) (ho : o + m ≤ 8) : putIn w o m v < 256 ^ 8 := by
  unfold putIn
  have h1 : w / 256 ^ (o + m) < 256 ^ (8 - (o + m)) := by
    rw [Nat.div_lt_iff_lt_mul (pos256 _), ← Nat.pow_add]
    rwa [show 8 - (o + m) + (o + m) = 8 by omega]
  have h2 := Nat.mod_lt w (pos256 o)
  have h3 := Nat.mod_lt v (pos256 m)
  have h4 : v % 256 ^ m + 256 ^ m * (w / 256 ^ (o + m)) < 256 ^ m * 256 ^ (8 - (o + m)) := by
    have : 256 ^ m * (w / 256 ^ (o + m)) + 256 ^ m ≤ 256 ^ m * 256 ^ (8 - (o + m)) := by
      rw [← Nat.mul_succ]
      exact Nat.mul_le_mul_left _ h1
    omega
  have h5 : w % 256 ^ o + 256 ^ o * (v % 256 ^ m + 256 ^ m * (w / 256 ^ (o + m))) < 256 ^ o * (256 ^ m * 256 ^ (8 - (o + m))) := by
    have : 256 ^ o * (v % 256 ^ m + 256 ^ m * (w / 256 ^ (o + m))) + 256 ^ o ≤ 256 ^ o * (256 ^ m * 256 ^ (8 - (o + m))) := by
      rw [← Nat.mul_succ]
      exact Nat.mul_le_mul_left _ h4
    omega
  rw [← Nat.pow_add, ← Nat.pow_add, show o + (m + (8 - (o + m))) = 8 by omega] at h5
  exact h5
theorem putIn_eq (w o m v : Nat) : putIn w o m v = w - w / 256 ^ o % 256 ^ m * 256 ^ o + v % 256 ^ m * 256 ^ o := by
  unfold putIn
  have e1 := Nat.mod_add_div w (256 ^ o)
  have e2 := Nat.mod_add_div (w / 256 ^ o) (256 ^ m)
  rw [Nat.div_div_eq_div_mul, ← Nat.pow_add] at e2
  rw [← e2, Nat.mul_add] at e1
  rw [Nat.mul_add, Nat.mul_comm (w / 256 ^ o % 256 ^ m), Nat.mul_comm (v % 256 ^ m)]
  omega
end Go.Proofs.Ytgkjdpdmmlalcaa.F
end
section
namespace Go.Proofs.Ytgkjdpdmmlalcaa.F
open Go.RowKit Go.Shelf Go.Proofs.YtgkjdpdmmlalcaaW.PrintWords Go.Proofs.YtgkjdpdmmlalcaaW.PrintLast Go.Proofs.YtgkjdpdmmlalcaaW.PrintMore
set_option linter.unusedVariables false
set_option linter.unusedSimpArgs false
abbrev SM := S83
abbrev SC := S88
abbrev wfM := wfS83
abbrev wfC := wfS88
abbrev mpV (x : SM) : Int := x.f1
abbrev clV (x : SC) : Int := x.f1
def wrd (m : List SC) (a : Int) : Int := look clK clV a m
def prt (l : List SM) (a : Int) : Int := look mpK mpV a l
def faultS (l : List SM) (a need : Int) : Int := if has mpK (a / 16384) l = true then (if Go.bits .and .i64 (prt l (a / 16384)) need = 0 then 2 else 0) else 1
def askS (l : List SM) (at_ need : Int) : Nat → Int → Int × Int
  | 0, _ => (0, 0)
  | r + 1, i => if (at_ + i) % 18446744073709551616 < at_ then (1, (at_ + i) % 18446744073709551616) else if faultS l ((at_ + i) % 18446744073709551616) need = 0 then askS l at_ need r (i + 1) else (faultS l ((at_ + i) % 18446744073709551616) need, (at_ + i) % 18446744073709551616)
theorem quo_u64 {a b : Int} (h0 : 0 ≤ a) (h1 : a < 18446744073709551616) (hb : 0 < b) : IntKind.u64.wrap (Int.tdiv a b) = a / b := by
  rw [u64w, Int.tdiv_eq_ediv_of_nonneg h0]
  have := Int.ediv_nonneg h0 (Int.le_of_lt hb)
  have h2 : a / b ≤ a := Int.ediv_le_self b h0
  omega
theorem placeFrom_bd (a : Int) : ∀ (l : List SM) (i : Nat), placeFrom a l i = -1 ∨ ∃ j, j < l.length ∧ placeFrom a l i = ((i + j : Nat) : Int)
  | [], _ => Or.inl rfl
  | x :: l, i => by
    unfold placeFrom
    split
    · exact Or.inr ⟨0, by simp, by simp⟩
    · rcases placeFrom_bd a l (i + 1) with h | ⟨j, hj, h⟩
      · exact Or.inl h
      · exact Or.inr ⟨j + 1, by simp; omega, by rw [h]; congr 1; omega⟩
theorem placeFrom_has (a : Int) : ∀ (l : List SM) (i : Nat), decide (placeFrom a l i < 0) = !has mpK a l
  | [], _ => rfl
  | x :: l, i => by
    unfold placeFrom has
    rw [List.any_cons]
    split
    · rename_i h
      rw [decide_eq_true (show mpK x = a from h)]
      simp
    · rename_i h
      rw [decide_eq_false (show ¬ mpK x = a from h), Bool.false_or]
      exact placeFrom_has a l (i + 1)
theorem placeR_has (l : List SM) (a : Int) : decide (placeR l a < 0) = !has mpK a l := placeFrom_has a l 0
theorem placeFrom_at (a : Int) : ∀ (l : List SM) (i : Nat) (j : Nat) (hj : j < l.length), placeFrom a l i = ((i + j : Nat) : Int) → l[j].f1 = look mpK mpV a l
  | [], _, j, hj, _ => by simp at hj
  | x :: l, i, j, hj, h => by
    unfold placeFrom at h
    unfold look
    by_cases hx : x.f0 = a
    · rw [if_pos hx] at h
      rw [if_pos hx]
      obtain rfl : j = 0 := by omega
      rfl
    rw [if_neg hx] at h
    rw [if_neg hx]
    rcases placeFrom_bd a l (i + 1) with h2 | ⟨k, hk, h2⟩
    · omega
    · obtain rfl : j = k + 1 := by omega
      exact placeFrom_at a l (i + 1) k hk h2
theorem ref_word_l0 (a : Int) (l : List SM) (m : List SC) (hm : m.length ≤ 1000000) : ∀ (k i : Nat), i ≤ m.length → m.length - i < k → ferryref03_word.l0 k a (i : Int) l m = some (look clK clV a (m.drop i))
  | 0, i, _, h => by omega
  | k + 1, i, hi, h => by
    unfold ferryref03_word.l0
    by_cases hlt : i < m.length
    · rw [if_pos (by omega), if_pos (by omega), cl_getR hlt, List.drop_eq_getElem_cons hlt]
      unfold look
      have hw : wrap64 ((i : Int) + 1) = ((i + 1 : Nat) : Int) := by unfold wrap64; omega
      rw [hw, ref_word_l0 a l m hm k (i + 1) hlt (by omega)]
      split <;> rfl
    rw [if_neg (by omega), List.drop_eq_nil_of_le (by omega)]
    rfl
theorem ref_word (a : Int) (l : List SM) (m : List SC) (hm : m.length ≤ 1000000) : ∀ k, m.length < k → ferryref03_word.f k l m a = some (wrd m a) := fun k hk => ref_word_l0 a l m hm k 0 (Nat.zero_le _) (by omega)
theorem ref_place (a : Int) (l : List SM) (m : List SC) (hl : l.length ≤ 1000000) : ∀ k, l.length < k → ferryref03_Place.f k l m a = some (placeR l a) := fun k hk => place_l0 a l m hl k 0 (Nat.zero_le _) (by omega)
theorem ref_fault (l : List SM) (m : List SC) (hl : l.length ≤ 1000000) {a : Int} (need : Int) (h0 : 0 ≤ a) (h1 : a < 18446744073709551616) : ∀ k, l.length < k → ferryref03_fault.f k l m a need = some (faultS l a need) := by
  intro k hk
  unfold ferryref03_fault.f
  rw [quo_u64 h0 h1 (by omega), ref_place _ l m hl k hk, Option.bind_some]
  unfold faultS
  have hp := placeR_has l (a / 16384)
  rcases placeFrom_bd (a / 16384) l 0 with h | ⟨j, hj, h⟩
  · have h2 : placeR l (a / 16384) = -1 := h
    rw [h2] at hp ⊢
    have h3 : has mpK (a / 16384) l = false := by revert hp; cases has mpK (a / 16384) l <;> simp
    rw [if_pos (by omega), h3]
    rfl
  · have h2 : placeR l (a / 16384) = ((j : Nat) : Int) := by rw [show placeR l (a / 16384) = _ from h]; congr 1; omega
    rw [h2] at hp ⊢
    have h3 : has mpK (a / 16384) l = true := by
      revert hp
      rw [decide_eq_false (by omega)]
      cases has mpK (a / 16384) l <;> simp
    rw [if_neg (by omega), if_pos (by omega), if_pos (by omega), mp_getR hj, h3, if_pos rfl]
    have h4 := placeFrom_at (a / 16384) l 0 j hj h
    rw [h4]
    unfold prt
    split <;> rfl
theorem ref_ask_l0 (l : List SM) (m : List SC) (hl : l.length ≤ 1000000) {a : Int} (need : Int) (n : Nat) (hn : n ≤ 8) (h0 : 0 ≤ a) (h1 : a < 18446744073709551616) :
    ∀ (k i : Nat), i ≤ n → n - i + l.length + 1 < k → ferryref03_ask.l0 k a (n : Int) need (i : Int) l m = some (askS l a need (n - i) i)
  | 0, i, _, h => by omega
  | k + 1, i, hi, h => by
    unfold ferryref03_ask.l0
    by_cases hlt : i < n
    · have hw1 : IntKind.u64.wrap (i : Int) = (i : Int) := by rw [u64w]; omega
      have hw : wrap64 ((i : Int) + 1) = ((i + 1 : Nat) : Int) := by unfold wrap64; omega
      rw [if_pos (by omega), hw1, u64w, ref_fault l m hl need (by omega) (by omega) k (by omega), Option.bind_some, show n - i = (n - (i + 1)) + 1 by omega]
      unfold askS
      rw [hw, ref_ask_l0 l m hl need n hn h0 h1 k (i + 1) hlt (by omega)]
      split
      · rw [if_neg (by omega)]
      · split <;> rfl
    obtain rfl : i = n := by omega
    rw [if_neg (by omega), Nat.sub_self]
    rfl
theorem ref_ask (l : List SM) (m : List SC) (hl : l.length ≤ 1000000) {a : Int} (need : Int) (n : Nat) (hn : n ≤ 8) (h0 : 0 ≤ a) (h1 : a < 18446744073709551616) :
    ∀ k, n + l.length + 1 < k → ferryref03_ask.f k l m a (n : Int) need = some (askS l a need n 0) := fun k hk => ref_ask_l0 l m hl need n hn h0 h1 k 0 (Nat.zero_le _) (by omega)
theorem low_hit {α : Type} {key val : α → Int} {l : List α} {p : Int} (hr : Rises key l) (h : has key p l = true) : ∃ hj : lowB key p l < l.length, key l[lowB key p l] = p ∧ val l[lowB key p l] = look key val p l := by
  have h1 := has_lowB key (k := p) hr
  have h2 := look_lowB key val (k := p) hr
  rw [h] at h1
  rcases Nat.lt_or_ge (lowB key p l) l.length with hlt | hge
  · refine ⟨hlt, ?_⟩
    rw [List.getElem?_eq_getElem hlt] at h1 h2
    dsimp only at h1 h2
    have h3 := of_decide_eq_true h1.symm
    rw [if_pos h3] at h2
    exact ⟨h3, h2.symm⟩
  · rw [List.getElem?_eq_none hge] at h1
    simp at h1
theorem host_ask_l0 (l : List SM) (m : List SC) (hl : l.length ≤ 1000000) (hr : Rises mpK l) {a : Int} (need : Int) (n : Nat) (hn : n ≤ 8) (h0 : 0 ≤ a) (h1 : a < 18446744073709551616) :
    ∀ (k i : Nat), i ≤ n → 2 * (n - i) < k → host_ask.l0 k a need (n : Int) (i : Int) l m = some (askS l a need (n - i) i)
  | 0, i, _, h => by omega
  | 1, i, hi, h => by
    unfold host_ask.l0
    obtain rfl : i = n := by omega
    rw [if_neg (by omega), Nat.sub_self]
    rfl
  | k + 2, i, hi, h => by
    unfold host_ask.l0
    by_cases hlt : i < n
    · have hw : IntKind.u64.wrap ((i : Int) + 1) = ((i + 1 : Nat) : Int) := by rw [u64w]; omega
      have hq : IntKind.u64.wrap (a + (i : Int)) = (a + (i : Int)) % 18446744073709551616 := u64w _
      have ih := host_ask_l0 l m hl hr need n hn h0 h1 k (i + 1) hlt (by omega)
      rw [if_pos (by omega), hq, quo_u64 (by omega) (by omega) (by omega), map_at_some m _ hl ((risesB_iff l).2 hr), Option.bind_some, show n - i = (n - (i + 1)) + 1 by omega]
      unfold askS
      generalize (a + (i : Int)) % 18446744073709551616 = b
      dsimp only
      unfold faultS
      cases hh : has mpK (b / 16384) l with
      | false =>
        rw [if_neg (show ¬ (false = true) by decide), if_neg (show ¬ (false = true) by decide)]
        unfold host_ask.j1
        rw [if_pos rfl]
        split
        · rfl
        · rw [if_neg (by decide)]
      | true =>
        rw [if_pos rfl, if_pos rfl]
        unfold host_ask.j1
        obtain ⟨hj, h3, h4⟩ := low_hit (val := mpV) hr hh
        by_cases hb : b < a
        · rw [decide_eq_true hb, if_pos rfl, if_pos hb]
          try rfl
        rw [decide_eq_false hb, if_neg (show ¬ (false = true) by decide), if_neg hb, if_pos (by omega), if_pos (by omega), mp_getR hj]
        have h5 : (l[lowB mpK (b / 16384) l]).f1 = prt l (b / 16384) := h4
        rw [h5, hw, ih]
        by_cases hz : Go.bits .and .i64 (prt l (b / 16384)) need = 0
        · rw [if_pos hz, if_pos hz, if_neg (by decide)]
        rw [if_neg hz, if_neg hz, if_pos rfl]
        rfl
    obtain rfl : i = n := by omega
    rw [if_neg (by omega), Nat.sub_self]
    rfl
theorem host_ask_spec (l : List SM) (m : List SC) (hl : l.length ≤ 1000000) (hr : Rises mpK l) {a : Int} (need : Int) (n : Nat) (hn : n ≤ 8) (h0 : 0 ≤ a) (h1 : a < 18446744073709551616) (k : Nat) (hk : 2 * n < k) :
    host_ask.f k l m a (n : Int) need = some (askS l a need n 0) := by
  unfold host_ask.f
  rw [show IntKind.u64.wrap (n : Int) = (n : Int) by rw [u64w]; omega]
  exact host_ask_l0 l m hl hr need n hn h0 h1 k 0 (Nat.zero_le _) (by omega)
theorem host_word_spec (l : List SM) (m : List SC) (hm : m.length ≤ 1000000) (hr : Rises clK m) (a : Int) : host_word.f l m a = some (wrd m a) := by
  unfold host_word.f host_cellAt.f
  rw [if_pos ⟨hm, (risesB_iff m).2 hr⟩, Option.bind_some]
  dsimp only
  unfold wrd
  cases hh : has clK a m with
  | false =>
    rw [if_neg (by simp)]
    rw [look_none clK clV (fun x hx => ?_)]
    have := List.any_eq_false.1 hh x hx
    simpa using this
  | true =>
    obtain ⟨hj, h3, h4⟩ := low_hit (val := clV) hr hh
    rw [if_pos rfl, if_pos (by omega), if_pos (by omega), cl_getR hj]
    exact congrArg some h4
end Go.Proofs.Ytgkjdpdmmlalcaa.F
end
section
namespace Go.Proofs.Ytgkjdpdmmlalcaa.F
open Go.RowKit Go.Proofs.YtgkjdpdmmlalcaaW.PrintWords Go.Proofs.YtgkjdpdmmlalcaaW.PrintLast Go.Proofs.YtgkjdpdmmlalcaaW.PrintMore
attribute [local go_sem] max2_int min2_int max_two min_two max_three min_three max_four min_four
set_option linter.unusedVariables false
set_option linter.unusedSimpArgs false

theorem eqA83 (d : Nat) (w : World) (x0 y0 : Int) (x1 y1 : Int) :
    (Op.equalIn (d + 2) 83 (.agg #[.int .u64 x0, .int .i64 x1]) (.agg #[.int .u64 y0, .int .i64 y1])).run Try.prog w = .ok (x0 == y0 && (x1 == y1)) w := by
  refine eqA_of Try.underlying83 (by kernel_rfl) ?_
  refine eqf_cons (by rfl) (by go_simp; rfl) (by go_simp; rfl) (by go_simp) ?_
  exact eqf_last (by rfl) (by go_simp; rfl) (by go_simp; rfl) (by go_simp)
end Go.Proofs.Ytgkjdpdmmlalcaa.F
end
section
namespace Go.Proofs.Ytgkjdpdmmlalcaa.F
open Go.RowKit Go.Proofs.YtgkjdpdmmlalcaaW.PrintWords Go.Proofs.YtgkjdpdmmlalcaaW.PrintLast Go.Proofs.YtgkjdpdmmlalcaaW.PrintMore
attribute [local go_sem] max2_int min2_int max_two min_two max_three min_three max_four min_four
set_option linter.unusedVariables false
set_option linter.unusedSimpArgs false

theorem eqA88 (d : Nat) (w : World) (x0 y0 : Int) (x1 y1 : Int) :
    (Op.equalIn (d + 2) 88 (.agg #[.int .u64 x0, .int .u64 x1]) (.agg #[.int .u64 y0, .int .u64 y1])).run Try.prog w = .ok (x0 == y0 && (x1 == y1)) w := by
  refine eqA_of Try.underlying88 (by kernel_rfl) ?_
  refine eqf_cons (by rfl) (by go_simp; rfl) (by go_simp; rfl) (by go_simp) ?_
  exact eqf_last (by rfl) (by go_simp; rfl) (by go_simp; rfl) (by go_simp)
end Go.Proofs.Ytgkjdpdmmlalcaa.F
end
section
namespace Go.Proofs.Ytgkjdpdmmlalcaa.F
open Go.RowKit Go.Proofs.YtgkjdpdmmlalcaaW.PrintWords Go.Proofs.YtgkjdpdmmlalcaaW.PrintLast Go.Proofs.YtgkjdpdmmlalcaaW.PrintMore
attribute [local go_sem] max2_int min2_int max_two min_two max_three min_three max_four min_four
set_option linter.unusedVariables false
set_option linter.unusedSimpArgs false

attribute [local go_sem high] eqA83 eqA88
mutual
def ferryref03_Same.j0 : Nat → Bool → List (S83) → List (S88) → List (S83) → List (S88) → Option (Bool)
  | 0, _, _, _, _, _ => none
  | k + 1, x22, x335000, x335001, x336000, x336001 => if x22 = true then (some false) else (ferryref03_Same.l0 k 0 x335000 x335001 x336000 x336001)
def ferryref03_Same.l0 : Nat → Int → List (S83) → List (S88) → List (S83) → List (S88) → Option (Bool)
  | 0, _, _, _, _, _ => none
  | k + 1, x5, x335000, x335001, x336000, x336001 => if x5 < (x335000.length : Int) then (if 0 ≤ x5 then (if x5 < (x336000.length : Int) then (if (!(((rd_T83 x335000 x5).f0) == ((rd_T83 x336000 x5).f0)) || (!(((rd_T83 x335000 x5).f1) == ((rd_T83 x336000 x5).f1)))) = true then (some false) else (ferryref03_Same.l0 k (wrap64 (x5 + 1)) x335000 x335001 x336000 x336001)) else (none)) else (none)) else (ferryref03_Same.l1 k 0 x335000 x335001 x336000 x336001)
def ferryref03_Same.l1 : Nat → Int → List (S83) → List (S88) → List (S83) → List (S88) → Option (Bool)
  | 0, _, _, _, _, _ => none
  | k + 1, x6, x335000, x335001, x336000, x336001 => if x6 < (x335001.length : Int) then (if 0 ≤ x6 then (if x6 < (x336001.length : Int) then (if (!(((rd_T88 x335001 x6).f0) == ((rd_T88 x336001 x6).f0)) || (!(((rd_T88 x335001 x6).f1) == ((rd_T88 x336001 x6).f1)))) = true then (some false) else (ferryref03_Same.l1 k (wrap64 (x6 + 1)) x335000 x335001 x336000 x336001)) else (none)) else (none)) else (some true)
end
def ferryref03_Same.f (k : Nat) (l0_0 : List (S83)) (l0_1 : List (S88)) (l1_0 : List (S83)) (l1_1 : List (S88)) : Option (Bool) := if (l0_0.length : Int) = (l1_0.length : Int) then (ferryref03_Same.j0 k ((l0_1.length : Int) != (l1_1.length : Int)) l0_0 l0_1 l1_0 l1_1) else (ferryref03_Same.j0 k true l0_0 l0_1 l1_0 l1_1)
set_option maxHeartbeats 8000000 in
set_option maxRecDepth 100000 in
theorem ferryref03_Same.calls (k : Nat) (A0_0 : Option Addr) (c0_0 : Nat) (l0_0 : List (S83)) (A0_1 : Option Addr) (c0_1 : Nat) (l0_1 : List (S88)) (A1_0 : Option Addr) (c1_0 : Nat) (l1_0 : List (S83)) (A1_1 : Option Addr) (c1_1 : Nat) (l1_1 : List (S88)) (r : Bool) (w : World) (hr0_0 : Kd.C k83 w A0_0 l0_0.length l0_0) (hc0_0 : l0_0.length ≤ c0_0) (hr0_1 : Kd.C k88 w A0_1 l0_1.length l0_1) (hc0_1 : l0_1.length ≤ c0_1) (hr1_0 : Kd.C k83 w A1_0 l1_0.length l1_0) (hc1_0 : l1_0.length ≤ c1_0) (hr1_1 : Kd.C k88 w A1_1 l1_1.length l1_1) (hc1_1 : l1_1.length ≤ c1_1) (h : ferryref03_Same.f k l0_0 l0_1 l1_0 l1_1 = some r) :
    Calls Try.prog 40 #[.agg #[.slice A0_0 l0_0.length c0_0, .slice A0_1 l0_1.length c0_1], .agg #[.slice A1_0 l1_0.length c1_0, .slice A1_1 l1_1.length c1_1]] w fun e w' => e = .returned (.bool r) ∧ Below w.heap.size w w' := by
  have hu25 := Try.underlying25
  have hu83 := Try.underlying83
  have hu88 := Try.underlying88
  have HR0_0 := Aside0.mk hr0_0
  have HC0_0 := Aside0.mk hc0_0
  clear hr0_0 hc0_0
  have HR0_1 := Aside0.mk hr0_1
  have HC0_1 := Aside0.mk hc0_1
  clear hr0_1 hc0_1
  have HR1_0 := Aside0.mk hr1_0
  have HC1_0 := Aside0.mk hc1_0
  clear hr1_0 hc1_0
  have HR1_1 := Aside0.mk hr1_1
  have HC1_1 := Aside0.mk hc1_1
  clear hr1_1 hc1_1
  have HB := Aside0.mk (Below.refl w.heap.size w)
  have H : (if (l0_0.length : Int) = (l1_0.length : Int) then (ferryref03_Same.j0 k ((l0_1.length : Int) != (l1_1.length : Int)) l0_0 l0_1 l1_0 l1_1) else (ferryref03_Same.j0 k true l0_0 l0_1 l1_0 l1_1)) = some r := h
  clear h
  have HC3 := Aside0.mk H
  clear H
  go_enter Try.func40, Try.ntmps40
  go_upto_region 1 with (first | ((with_reducible refine gate_dst (N := 2) rfl ?_); (try (refine gate_guard (by rfl) ?_; dsimp only)); refine bE_ 2 #[.slice A0_0 l0_0.length c0_0, .slice A0_1 l0_1.length c0_1] 25 ?_; intro gb334 hg w4 hbox hb; have BK334 := Aside0.mk hbox; have GW334 := geT_ w.heap.size hg; have GE334 := geT_ w.heap.size hg; replace HB := hB_ hb; clear hb hbox hg) | ((with_reducible refine gate_dst (N := 3) rfl ?_); (try (refine gate_guard (by rfl) ?_; dsimp only)); refine bE_ 3 #[.slice A1_0 l1_0.length c1_0, .slice A1_1 l1_1.length c1_1] 25 ?_; intro gb335 hg w5 hbox hb; have BK335 := Aside0.mk hbox; have GW335 := geT_ w.heap.size hg; have GE335 := geT_ w.heap.size hg; have NB334_335 := nlT_ BK334.out hg; have NB335_334 := ngT_ BK334.out hg; replace BK334 := kB_ BK334 hb; replace HB := hB_ hb; clear hb hbox hg))
  repeat (go_quiet (fail); go_upto_region 1 with (fail))
  go_cut [22] (fun v22 wc => ∃ (kq : Nat) (x22_2 : Bool), v22 = .bool x22_2 ∧ Aside0 (ferryref03_Same.j0 kq x22_2 l0_0 l0_1 l1_0 l1_1 = some r) ∧ Aside0 (kq ≤ k) ∧ Aside0 (wc.heap[gb334]? = some (.cells #[(.slice A0_0 l0_0.length c0_0), (.slice A0_1 l0_1.length c0_1)] 25 (0, 0))) ∧ Aside0 (wc.heap[gb335]? = some (.cells #[(.slice A1_0 l1_0.length c1_0), (.slice A1_1 l1_1.length c1_1)] 25 (0, 0))) ∧ Aside0 (Below w.heap.size w wc))
  case first =>
    have H := HC3.out
    clear HC3
    by_cases c6 : (l0_0.length : Int) = (l1_0.length : Int)
    · rw [if_pos c6] at H
      have c6b0 : ((l0_0.length : Int) == (l1_0.length : Int)) = true := beq_iff_eq.mpr c6
      have c6b1 : ((l0_0.length : Int) != (l1_0.length : Int)) = false := bne_eq_false_iff_eq.mpr c6
      have c6b2 : (l0_0.length == l1_0.length) = true := by (simp at c6 ⊢; omega)
      clear c6
      (skip)
      have H' := Aside0.mk H
      clear H
      have hnb7 := NB334_335.out
      have hnc7 := NB335_334.out
      obtain ⟨hcz8_0, hcz8_1, hfz8_0, hfz8_1⟩ := b2_ BK334.out
      obtain ⟨hcz9_0, hcz9_1, hfz9_0, hfz9_1⟩ := b2_ BK335.out
      go_wp2
      repeat (go_quiet (fail))
      go_meet
      case rel => exact ⟨_, (((l0_1.length : Int) != (l1_1.length : Int))), r1_, H', ⟨r2_⟩, ⟨bT_ BK334.out⟩, ⟨bT_ BK335.out⟩, ⟨beT_⟩⟩
    rw [if_neg c6] at H
    have c6b0 : ((l0_0.length : Int) == (l1_0.length : Int)) = false := beq_eq_false_iff_ne.mpr c6
    have c6b1 : ((l0_0.length : Int) != (l1_0.length : Int)) = true := bne_iff_ne.mpr c6
    have c6b2 : (l0_0.length == l1_0.length) = false := by (simp at c6 ⊢; omega)
    (skip)
    have H' := Aside0.mk H
    clear H
    have hnb10 := NB334_335.out
    have hnc10 := NB335_334.out
    obtain ⟨hcz11_0, hcz11_1, hfz11_0, hfz11_1⟩ := b2_ BK334.out
    obtain ⟨hcz12_0, hcz12_1, hfz12_0, hfz12_1⟩ := b2_ BK335.out
    go_wp2
    repeat (go_quiet (fail))
    go_meet
    case rel => exact ⟨_, (true), r1_, H', ⟨r2_⟩, ⟨bT_ BK334.out⟩, ⟨bT_ BK335.out⟩, ⟨beT_⟩⟩
  case rest =>
    clear HC3
    obtain ⟨kq, x22_2, rfl, HA, HJ2, BK334, BK335, HB⟩ := hcut
    cases kq with
    | zero => exact absurd HA.out (by simp [ferryref03_Same.j0])
    | succ kj2 =>
      have H := HA.out
      clear HA
      simp only [ferryref03_Same.j0] at H
      by_cases c13 : x22_2 = true
      · subst c13
        replace H := hP_ H
        obtain rfl := Option.some.inj H
        go_wp2
        repeat (go_quiet (fail))
        go_ret
        exact ⟨r3_, beT_⟩
      replace c13 := Bool.eq_false_iff.mpr c13
      subst c13
      replace H := hN_ H
      have H' := Aside0.mk H
      clear H
      go_wp2
      repeat (go_quiet (fail))
      go_loopg [5] kj2 (fun kq v5 w' => ∃ (x5_2 : Int), v5 = .int .i64 x5_2 ∧ Aside0 (ferryref03_Same.l0 kq x5_2 l0_0 l0_1 l1_0 l1_1 = some r) ∧ Aside0 (kq ≤ kj2) ∧ Aside0 (w'.heap[gb334]? = some (.cells #[(.slice A0_0 l0_0.length c0_0), (.slice A0_1 l0_1.length c0_1)] 25 (0, 0))) ∧ Aside0 (w'.heap[gb335]? = some (.cells #[(.slice A1_0 l1_0.length c1_0), (.slice A1_1 l1_1.length c1_1)] 25 (0, 0))) ∧ Aside0 (Below w.heap.size w w'))
      case atStart => exact ⟨(0), r1_, H', ⟨Nat.le_refl _⟩, ⟨bT_ BK334.out⟩, ⟨bT_ BK335.out⟩, ⟨beT_⟩⟩
      case round =>
        clear H'
        obtain ⟨x5_2, rfl, HA, HK2, BK334, BK335, HB⟩ := hrel
        cases gk with
        | zero => exact absurd HA.out (by simp [ferryref03_Same.l0])
        | succ k2 =>
          have H := HA.out
          clear HA
          simp only [ferryref03_Same.l0] at H
          by_cases c14 : x5_2 < (l0_0.length : Int)
          · rw [if_pos c14] at H
            have c14b0 : decide (x5_2 < (l0_0.length : Int)) = true := decide_eq_true c14
            clear c14
            by_cases c15 : 0 ≤ x5_2
            · rw [if_pos c15] at H
              have c15b0 : decide (0 ≤ x5_2) = true := decide_eq_true c15
              clear c15
              by_cases c16 : x5_2 < (l1_0.length : Int)
              · rw [if_pos c16] at H
                have c16b0 : decide (x5_2 < (l1_0.length : Int)) = true := decide_eq_true c16
                clear c16
                by_cases c17 : (!(((rd_T83 l0_0 x5_2).f0) == ((rd_T83 l1_0 x5_2).f0)) || (!(((rd_T83 l0_0 x5_2).f1) == ((rd_T83 l1_0 x5_2).f1)))) = true
                · rw [if_pos c17] at H
                  have c17b0 : (!(((rd_T83 l0_0 x5_2).f0) == ((rd_T83 l1_0 x5_2).f0)) || (!(((rd_T83 l0_0 x5_2).f1) == ((rd_T83 l1_0 x5_2).f1)))) = true := c17
                  clear c17
                  obtain rfl := Option.some.inj H
                  have hnb18 := NB334_335.out
                  have hnc18 := NB335_334.out
                  obtain ⟨hcz19_0, hcz19_1, hfz19_0, hfz19_1⟩ := b2_ BK334.out
                  have p336 : 0 ≤ (x5_2 : Int) := dT_
                  have q336 : x5_2 < (l0_0.length : Int) := dT_
                  obtain ⟨ad336, e336, hx336_0, hx336_1⟩ := at_T83 HR0_0.out x5_2 p336 q336
                  cases e336
                  replace hx336_0 := hX_ hx336_0
                  replace hx336_1 := hX_ hx336_1
                  replace p336 := eq_true p336
                  replace q336 := eq_true q336
                  obtain ⟨hcz20_0, hcz20_1, hfz20_0, hfz20_1⟩ := b2_ BK335.out
                  have p337 : 0 ≤ (x5_2 : Int) := dT_
                  have q337 : x5_2 < (l1_0.length : Int) := dT_
                  obtain ⟨ad337, e337, hx337_0, hx337_1⟩ := at_T83 HR1_0.out x5_2 p337 q337
                  cases e337
                  replace hx337_0 := hX_ hx337_0
                  replace hx337_1 := hX_ hx337_1
                  replace p337 := eq_true p337
                  replace q337 := eq_true q337
                  go_wp2
                  repeat (go_quiet (fail); try go_wp2)
                  go_ret
                  exact ⟨r3_, beT_⟩
                rw [if_neg c17] at H
                have c17b0 : (!(((rd_T83 l0_0 x5_2).f0) == ((rd_T83 l1_0 x5_2).f0)) || (!(((rd_T83 l0_0 x5_2).f1) == ((rd_T83 l1_0 x5_2).f1)))) = false := by simpa using c17
                clear c17
                have H' := Aside0.mk H
                clear H
                have hnb21 := NB334_335.out
                have hnc21 := NB335_334.out
                obtain ⟨hcz22_0, hcz22_1, hfz22_0, hfz22_1⟩ := b2_ BK334.out
                have p336 : 0 ≤ (x5_2 : Int) := dT_
                have q336 : x5_2 < (l0_0.length : Int) := dT_
                obtain ⟨ad336, e336, hx336_0, hx336_1⟩ := at_T83 HR0_0.out x5_2 p336 q336
                cases e336
                replace hx336_0 := hX_ hx336_0
                replace hx336_1 := hX_ hx336_1
                replace p336 := eq_true p336
                replace q336 := eq_true q336
                obtain ⟨hcz23_0, hcz23_1, hfz23_0, hfz23_1⟩ := b2_ BK335.out
                have p337 : 0 ≤ (x5_2 : Int) := dT_
                have q337 : x5_2 < (l1_0.length : Int) := dT_
                obtain ⟨ad337, e337, hx337_0, hx337_1⟩ := at_T83 HR1_0.out x5_2 p337 q337
                cases e337
                replace hx337_0 := hX_ hx337_0
                replace hx337_1 := hX_ hx337_1
                replace p337 := eq_true p337
                replace q337 := eq_true q337
                go_wp2
                repeat (go_quiet (fail); try go_wp2)
                go_roundg k2
                case measure => have := HJ2.out; have := HK2.out; omega
                case rel => exact ⟨(wrap64 (x5_2 + 1)), r1_, H', ⟨by have := HJ2.out; have := HK2.out; omega⟩, ⟨bT_ BK334.out⟩, ⟨bT_ BK335.out⟩, ⟨beT_⟩⟩
              rw [if_neg c16] at H
              exact absurd H (by simp)
            rw [if_neg c15] at H
            exact absurd H (by simp)
          rw [if_neg c14] at H
          have c14b0 : decide (x5_2 < (l0_0.length : Int)) = false := decide_eq_false c14
          clear c14
          have H' := Aside0.mk H
          clear H
          have hnb24 := NB334_335.out
          have hnc24 := NB335_334.out
          obtain ⟨hcz25_0, hcz25_1, hfz25_0, hfz25_1⟩ := b2_ BK334.out
          go_wp2
          repeat (go_quiet (fail))
          go_loopg [6] k2 (fun kq v6 w' => ∃ (x6_3 : Int), v6 = .int .i64 x6_3 ∧ Aside0 (ferryref03_Same.l1 kq x6_3 l0_0 l0_1 l1_0 l1_1 = some r) ∧ Aside0 (kq ≤ k2) ∧ Aside0 (w'.heap[gb334]? = some (.cells #[(.slice A0_0 l0_0.length c0_0), (.slice A0_1 l0_1.length c0_1)] 25 (0, 0))) ∧ Aside0 (w'.heap[gb335]? = some (.cells #[(.slice A1_0 l1_0.length c1_0), (.slice A1_1 l1_1.length c1_1)] 25 (0, 0))) ∧ Aside0 (Below w.heap.size w w'))
          case atStart => exact ⟨(0), r1_, H', ⟨Nat.le_refl _⟩, ⟨bT_ BK334.out⟩, ⟨bT_ BK335.out⟩, ⟨beT_⟩⟩
          case round =>
            clear H'
            try clear c14b0
            try clear hcz25_0
            try clear hcz25_1
            try clear hfz25_0
            try clear hfz25_1
            obtain ⟨x6_3, rfl, HA, HK3, BK334, BK335, HB⟩ := hrel
            cases gk with
            | zero => exact absurd HA.out (by simp [ferryref03_Same.l1])
            | succ k3 =>
              have H := HA.out
              clear HA
              simp only [ferryref03_Same.l1] at H
              by_cases c26 : x6_3 < (l0_1.length : Int)
              · rw [if_pos c26] at H
                have c26b0 : decide (x6_3 < (l0_1.length : Int)) = true := decide_eq_true c26
                clear c26
                by_cases c27 : 0 ≤ x6_3
                · rw [if_pos c27] at H
                  have c27b0 : decide (0 ≤ x6_3) = true := decide_eq_true c27
                  clear c27
                  by_cases c28 : x6_3 < (l1_1.length : Int)
                  · rw [if_pos c28] at H
                    have c28b0 : decide (x6_3 < (l1_1.length : Int)) = true := decide_eq_true c28
                    clear c28
                    by_cases c29 : (!(((rd_T88 l0_1 x6_3).f0) == ((rd_T88 l1_1 x6_3).f0)) || (!(((rd_T88 l0_1 x6_3).f1) == ((rd_T88 l1_1 x6_3).f1)))) = true
                    · rw [if_pos c29] at H
                      have c29b0 : (!(((rd_T88 l0_1 x6_3).f0) == ((rd_T88 l1_1 x6_3).f0)) || (!(((rd_T88 l0_1 x6_3).f1) == ((rd_T88 l1_1 x6_3).f1)))) = true := c29
                      clear c29
                      obtain rfl := Option.some.inj H
                      have hnb30 := NB334_335.out
                      have hnc30 := NB335_334.out
                      obtain ⟨hcz31_0, hcz31_1, hfz31_0, hfz31_1⟩ := b2_ BK334.out
                      have p338 : 0 ≤ (x6_3 : Int) := dT_
                      have q338 : x6_3 < (l0_1.length : Int) := dT_
                      obtain ⟨ad338, e338, hx338_0, hx338_1⟩ := at_T88 HR0_1.out x6_3 p338 q338
                      cases e338
                      replace hx338_0 := hX_ hx338_0
                      replace hx338_1 := hX_ hx338_1
                      replace p338 := eq_true p338
                      replace q338 := eq_true q338
                      obtain ⟨hcz32_0, hcz32_1, hfz32_0, hfz32_1⟩ := b2_ BK335.out
                      have p339 : 0 ≤ (x6_3 : Int) := dT_
                      have q339 : x6_3 < (l1_1.length : Int) := dT_
                      obtain ⟨ad339, e339, hx339_0, hx339_1⟩ := at_T88 HR1_1.out x6_3 p339 q339
                      cases e339
                      replace hx339_0 := hX_ hx339_0
                      replace hx339_1 := hX_ hx339_1
                      replace p339 := eq_true p339
                      replace q339 := eq_true q339
                      go_wp2
                      repeat (go_quiet (fail); try go_wp2)
                      go_ret
                      exact ⟨r3_, beT_⟩
                    rw [if_neg c29] at H
                    have c29b0 : (!(((rd_T88 l0_1 x6_3).f0) == ((rd_T88 l1_1 x6_3).f0)) || (!(((rd_T88 l0_1 x6_3).f1) == ((rd_T88 l1_1 x6_3).f1)))) = false := by simpa using c29
                    clear c29
                    have H' := Aside0.mk H
                    clear H
                    have hnb33 := NB334_335.out
                    have hnc33 := NB335_334.out
                    obtain ⟨hcz34_0, hcz34_1, hfz34_0, hfz34_1⟩ := b2_ BK334.out
                    have p338 : 0 ≤ (x6_3 : Int) := dT_
                    have q338 : x6_3 < (l0_1.length : Int) := dT_
                    obtain ⟨ad338, e338, hx338_0, hx338_1⟩ := at_T88 HR0_1.out x6_3 p338 q338
                    cases e338
                    replace hx338_0 := hX_ hx338_0
                    replace hx338_1 := hX_ hx338_1
                    replace p338 := eq_true p338
                    replace q338 := eq_true q338
                    obtain ⟨hcz35_0, hcz35_1, hfz35_0, hfz35_1⟩ := b2_ BK335.out
                    have p339 : 0 ≤ (x6_3 : Int) := dT_
                    have q339 : x6_3 < (l1_1.length : Int) := dT_
                    obtain ⟨ad339, e339, hx339_0, hx339_1⟩ := at_T88 HR1_1.out x6_3 p339 q339
                    cases e339
                    replace hx339_0 := hX_ hx339_0
                    replace hx339_1 := hX_ hx339_1
                    replace p339 := eq_true p339
                    replace q339 := eq_true q339
                    go_wp2
                    repeat (go_quiet (fail); try go_wp2)
                    go_roundg k3
                    case measure => have := HJ2.out; have := HK2.out; have := HK3.out; omega
                    case rel => exact ⟨(wrap64 (x6_3 + 1)), r1_, H', ⟨by have := HJ2.out; have := HK2.out; have := HK3.out; omega⟩, ⟨bT_ BK334.out⟩, ⟨bT_ BK335.out⟩, ⟨beT_⟩⟩
                  rw [if_neg c28] at H
                  exact absurd H (by simp)
                rw [if_neg c27] at H
                exact absurd H (by simp)
              rw [if_neg c26] at H
              have c26b0 : decide (x6_3 < (l0_1.length : Int)) = false := decide_eq_false c26
              clear c26
              obtain rfl := Option.some.inj H
              have hnb36 := NB334_335.out
              have hnc36 := NB335_334.out
              obtain ⟨hcz37_0, hcz37_1, hfz37_0, hfz37_1⟩ := b2_ BK334.out
              go_wp2
              repeat (go_quiet (fail))
              go_ret
              exact ⟨r3_, beT_⟩

end Go.Proofs.Ytgkjdpdmmlalcaa.F
end
section
namespace Go.Proofs.Ytgkjdpdmmlalcaa.F
open Go.RowKit Go.Shelf Go.Proofs.YtgkjdpdmmlalcaaW.PrintWords Go.Proofs.YtgkjdpdmmlalcaaW.PrintLast Go.Proofs.YtgkjdpdmmlalcaaW.PrintMore
set_option linter.unusedVariables false
set_option linter.unusedSimpArgs false
theorem andNot7_i64 {n : Int} (h0 : -9223372036854775808 ≤ n) (h1 : n ≤ 9223372036854775807) : Go.bits .andNot .i64 n 7 = n - n % 8 := by
  have h := bv_andNot (BitVec.ofInt 64 n) (BitVec.ofInt 64 7)
  have e : (BitVec.ofInt 64 n &&& BitVec.ofInt 64 7).toNat = (n % ((2 ^ 64 : Nat) : Int)).toNat % 8 := by
    rw [BitVec.toNat_and, BitVec.toNat_ofInt, show (BitVec.ofInt 64 7).toNat = 2 ^ 3 - 1 from rfl, Nat.and_two_pow_sub_one_eq_mod]
  rw [e, BitVec.toNat_ofInt] at h
  show IntKind.i64.wrap (((BitVec.ofInt 64 n &&& ~~~BitVec.ofInt 64 7).toNat : Nat) : Int) = _
  rw [IntKind.wrap_i64]
  have h3 : ((2 ^ 64 : Nat) : Int) = 18446744073709551616 := rfl
  rw [h3] at h
  omega
theorem badProt_iff {n : Int} (h0 : -9223372036854775808 ≤ n) (h1 : n ≤ 9223372036854775807) : (Go.bits .andNot .i64 n 7 != 0) = !decide (0 ≤ n ∧ n ≤ 7) := by
  rw [andNot7_i64 h0 h1]
  by_cases h : 0 ≤ n ∧ n ≤ 7
  · rw [decide_eq_true h, bne_eq_false_iff_eq.2 (by omega)]
    rfl
  rw [decide_eq_false h, bne_iff_ne.2 (by omega)]
  rfl
theorem rises_of_next {α : Type} {key : α → Int} : ∀ {l : List α}, (∀ i (h : i + 1 < l.length), key (l[i]'(by omega)) < key l[i + 1]) → Rises key l
  | [], _ => trivial
  | [_], _ => trivial
  | x :: y :: l, h => ⟨h 0 (by simp), rises_of_next (l := y :: l) (fun i hi => h (i + 1) (by simpa using hi))⟩
theorem rises_prev {α : Type} {key : α → Int} (l : List α) : Rises key l ↔ ∀ i (h : i < l.length), prevGe key l i (key l[i]) = false := by
  constructor
  · intro hr i hi
    cases i with
    | zero => rfl
    | succ j =>
      rw [prevGe_succ key l j (by omega)]
      have := rises_get key hr j (j + 1) hi (by omega)
      exact decide_eq_false (by omega)
  · intro h
    refine rises_of_next (fun i hi => ?_)
    have h2 := h (i + 1) hi
    rw [prevGe_succ key l i (by omega)] at h2
    have := of_decide_eq_false h2
    omega
structure FitH (l : List SM) (m : List SC) : Prop where
  lr : Rises mpK l
  ln : l.length ≤ 64
  lp : ∀ x ∈ l, 0 ≤ x.f0 ∧ x.f0 < 1125899906842624 ∧ 0 ≤ x.f1 ∧ x.f1 ≤ 7
  mr : Rises clK m
  mn : m.length ≤ 131072
  mp : ∀ x ∈ m, 0 ≤ x.f0 ∧ x.f0 < 18446744073709551616 ∧ x.f0 % 8 = 0 ∧ 0 < x.f1 ∧ x.f1 < 18446744073709551616 ∧ has mpK (x.f0 / 16384) l = true
theorem tmod8 {a : Int} (h : 0 ≤ a) : (Int.tmod a 8 != 0) = !decide (a % 8 = 0) := by
  rw [Int.tmod_eq_emod_of_nonneg h]
  by_cases h2 : a % 8 = 0
  · rw [decide_eq_true h2, bne_eq_false_iff_eq.2 h2]
    rfl
  rw [decide_eq_false h2, bne_iff_ne.2 h2]
  rfl
theorem badM_iff {l : List SM} (wl : ∀ x ∈ l, wfM x) (k : Nat) (hk : k < l.length) : badM l k = false ↔ (l[k].f0 < 1125899906842624 ∧ 0 ≤ l[k].f1 ∧ l[k].f1 ≤ 7) ∧ prevGe mpK l k (mpK l[k]) = false := by
  unfold badM
  rw [List.getElem?_eq_getElem hk]
  simp only [Bool.or_eq_false_iff, decide_eq_false_iff_not]
  constructor
  · rintro ⟨h1, h2, h3, h4⟩
    exact ⟨⟨by omega, by omega, by omega⟩, h4⟩
  · rintro ⟨⟨h1, h2, h3⟩, h4⟩
    exact ⟨by omega, by omega, by omega, h4⟩
theorem badC_iff {l : List SM} {m : List SC} (wm : ∀ x ∈ m, wfC x) (k : Nat) (hk : k < m.length) : badC l m k = false ↔ (m[k].f0 % 8 = 0 ∧ m[k].f1 ≠ 0 ∧ has mpK (m[k].f0 / 16384) l = true) ∧ prevGe clK m k (clK m[k]) = false := by
  have hw := wm _ (List.getElem_mem hk)
  have h0 : 0 ≤ m[k].f0 ∧ m[k].f0 ≤ 18446744073709551615 := hw.1
  unfold badC
  rw [List.getElem?_eq_getElem hk]
  dsimp only
  rw [tmod8 h0.1, quo_u64 h0.1 (by omega) (by omega), placeR_has]
  simp only [Bool.or_eq_false_iff, Bool.not_eq_false', decide_eq_true_eq, beq_eq_false_iff_ne]
  constructor
  · rintro ⟨h1, h2, h3, h4⟩
    exact ⟨⟨h1, h2, h4⟩, h3⟩
  · rintro ⟨⟨h1, h2, h3⟩, h4⟩
    exact ⟨h1, h2, h4, h3⟩
theorem not_any_range {n : Nat} {p : Nat → Bool} : (!((List.range n).any p)) = true ↔ ∀ k, k < n → p k = false := by
  rw [Bool.not_eq_true', List.any_eq_false]
  constructor
  · intro h k hk
    have := h k (List.mem_range.2 hk)
    simpa using this
  · intro h k hk
    rw [h k (List.mem_range.1 hk)]
    simp
theorem fitR_iff {l : List SM} {m : List SC} (wl : ∀ x ∈ l, wfM x) (wm : ∀ x ∈ m, wfC x) : fitR l m = true ↔ FitH l m := by
  unfold fitR
  simp only [Bool.and_eq_true, decide_eq_true_eq]
  rw [not_any_range, not_any_range]
  constructor
  · rintro ⟨h1, h2, h3, h4⟩
    have b1 := fun k hk => (badM_iff wl k hk).1 (h3 k hk)
    have b2 := fun k hk => (badC_iff wm k hk).1 (h4 k hk)
    refine ⟨(rises_prev l).2 (fun i hi => (b1 i hi).2), h1, fun x hx => ?_, (rises_prev m).2 (fun i hi => (b2 i hi).2), h2, fun x hx => ?_⟩
    · obtain ⟨i, hi, rfl⟩ := List.getElem_of_mem hx
      have hw : (0 ≤ l[i].f0 ∧ l[i].f0 ≤ 18446744073709551615) ∧ _ := wl _ hx
      have := (b1 i hi).1
      exact ⟨hw.1.1, this.1, this.2.1, this.2.2⟩
    · obtain ⟨i, hi, rfl⟩ := List.getElem_of_mem hx
      have hw : (0 ≤ m[i].f0 ∧ m[i].f0 ≤ 18446744073709551615) ∧ (0 ≤ m[i].f1 ∧ m[i].f1 ≤ 18446744073709551615) := wm _ hx
      have := (b2 i hi).1
      have h5 := this.2.1
      exact ⟨hw.1.1, by omega, this.1, by omega, by omega, this.2.2⟩
  · intro h
    refine ⟨h.ln, h.mn, fun k hk => (badM_iff wl k hk).2 ?_, fun k hk => (badC_iff wm k hk).2 ?_⟩
    · have := h.lp _ (List.getElem_mem hk)
      exact ⟨⟨this.2.1, this.2.2.1, this.2.2.2⟩, (rises_prev l).1 h.lr k hk⟩
    · have := h.mp _ (List.getElem_mem hk)
      exact ⟨⟨this.2.2.1, by omega, this.2.2.2.2.2⟩, (rises_prev m).1 h.mr k hk⟩
theorem and7_u64 {a : Int} (h0 : 0 ≤ a) (h1 : a ≤ 18446744073709551615) : Go.bits .and .u64 a 7 = a % 8 := mask64 3 (by decide) h0 h1
theorem fitB_iff {l : List SM} {m : List SC} (wl : ∀ x ∈ l, wfM x) (wm : ∀ x ∈ m, wfC x) : fitB l m = true ↔ FitH l m := by
  unfold fitB
  simp only [Bool.and_eq_true, decide_eq_true_eq, Bool.not_eq_true', List.any_eq_false]
  rw [risesB_iff, risesB_iff]
  constructor
  · rintro ⟨h1, h2, h3, h4, h5, h6⟩
    refine ⟨h1, h3, fun x hx => ?_, h2, h4, fun x hx => ?_⟩
    · have hw : (0 ≤ x.f0 ∧ x.f0 ≤ 18446744073709551615) ∧ (-9223372036854775808 ≤ x.f1 ∧ x.f1 ≤ 9223372036854775807) := wl _ hx
      have h7 := h5 x hx
      unfold fitMap at h7
      rw [badProt_iff hw.2.1 hw.2.2] at h7
      simp only [Bool.or_eq_true, decide_eq_true_eq, Bool.not_eq_true', decide_eq_false_iff_not, not_or, Classical.not_not] at h7
      exact ⟨hw.1.1, by omega, h7.2.1, h7.2.2⟩
    · have hw : (0 ≤ x.f0 ∧ x.f0 ≤ 18446744073709551615) ∧ (0 ≤ x.f1 ∧ x.f1 ≤ 18446744073709551615) := wm _ hx
      have h7 := h6 x hx
      unfold fitCell at h7
      rw [and7_u64 hw.1.1 hw.1.2, quo_u64 hw.1.1 (by omega) (by omega)] at h7
      simp only [Bool.or_eq_true, Bool.not_eq_true', not_or, bne_iff_ne, beq_iff_eq, Classical.not_not, Bool.not_eq_false] at h7
      exact ⟨hw.1.1, by omega, h7.1.2, by omega, by omega, h7.1.1⟩
  · intro h
    refine ⟨h.lr, h.mr, h.ln, h.mn, fun x hx => ?_, fun x hx => ?_⟩
    · have hw : (0 ≤ x.f0 ∧ x.f0 ≤ 18446744073709551615) ∧ (-9223372036854775808 ≤ x.f1 ∧ x.f1 ≤ 9223372036854775807) := wl _ hx
      have := h.lp x hx
      unfold fitMap
      rw [badProt_iff hw.2.1 hw.2.2]
      simp only [Bool.or_eq_true, decide_eq_true_eq, Bool.not_eq_true', decide_eq_false_iff_not, not_or, Classical.not_not]
      exact ⟨by omega, this.2.2⟩
    · have hw : (0 ≤ x.f0 ∧ x.f0 ≤ 18446744073709551615) ∧ (0 ≤ x.f1 ∧ x.f1 ≤ 18446744073709551615) := wm _ hx
      have := h.mp x hx
      unfold fitCell
      rw [and7_u64 hw.1.1 hw.1.2, quo_u64 hw.1.1 (by omega) (by omega)]
      simp only [Bool.or_eq_true, Bool.not_eq_true', not_or, bne_iff_ne, beq_iff_eq, Classical.not_not, Bool.not_eq_false]
      exact ⟨⟨this.2.2.2.2.2, this.2.2.1⟩, by omega⟩
theorem FitH.wl {l : List SM} {m : List SC} (h : FitH l m) : ∀ x ∈ l, wfM x := fun x hx => by
  have := h.lp x hx
  exact ⟨⟨this.1, by omega⟩, ⟨by omega, by omega⟩⟩
theorem FitH.wm {l : List SM} {m : List SC} (h : FitH l m) : ∀ x ∈ m, wfC x := fun x hx => by
  have := h.mp x hx
  exact ⟨⟨this.1, by omega⟩, ⟨by omega, by omega⟩⟩
theorem FitH.fitR {l : List SM} {m : List SC} (h : FitH l m) : fitR l m = true := (fitR_iff h.wl h.wm).2 h
def eqL {α : Type} (p : α → α → Bool) : List α → List α → Bool
  | [], [] => true
  | x :: l, y :: m => p x y && eqL p l m
  | _, _ => false
theorem eqL_refl {α : Type} {p : α → α → Bool} (h : ∀ x, p x x = true) : ∀ l : List α, eqL p l l = true
  | [] => rfl
  | x :: l => by
    unfold eqL
    rw [h x, eqL_refl h l]
    rfl
theorem eqL_length {α : Type} {p : α → α → Bool} : ∀ {l m : List α}, eqL p l m = true → l.length = m.length
  | [], [], _ => rfl
  | x :: l, y :: m, h => by
    unfold eqL at h
    rw [Bool.and_eq_true] at h
    simp [eqL_length h.2]
  | [], _ :: _, h => by simp [eqL] at h
  | _ :: _, [], h => by simp [eqL] at h
def eqMp (x y : SM) : Bool := (x.f0 == y.f0) && (x.f1 == y.f1)
def eqCl (x y : SC) : Bool := (x.f0 == y.f0) && (x.f1 == y.f1)
def sameS (l : List SM) (m : List SC) (l' : List SM) (m' : List SC) : Bool := eqL eqMp l l' && eqL eqCl m m'
theorem sameS_refl (l : List SM) (m : List SC) : sameS l m l m = true := by
  unfold sameS
  rw [eqL_refl (fun x => by simp [eqMp]), eqL_refl (fun x => by simp [eqCl])]
  rfl
end Go.Proofs.Ytgkjdpdmmlalcaa.F
end
section
namespace Go.Proofs.Ytgkjdpdmmlalcaa.F
open Go.RowKit Go.Shelf Go.Proofs.YtgkjdpdmmlalcaaW.PrintWords Go.Proofs.YtgkjdpdmmlalcaaW.PrintLast Go.Proofs.YtgkjdpdmmlalcaaW.PrintMore
set_option linter.unusedVariables false
set_option linter.unusedSimpArgs false
theorem ref_Same_l1 (l l' : List SM) (m m' : List SC) (e : m.length = m'.length) (hm : m.length ≤ 1000000) : ∀ (k i : Nat), i ≤ m.length → m.length - i < k → ferryref03_Same.l1 k (i : Int) l m l' m' = some (eqL eqCl (m.drop i) (m'.drop i))
  | 0, i, _, h => by omega
  | k + 1, i, hi, h => by
    unfold ferryref03_Same.l1
    by_cases hlt : i < m.length
    · have hw : wrap64 ((i : Int) + 1) = ((i + 1 : Nat) : Int) := by unfold wrap64; omega
      rw [if_pos (by omega), if_pos (by omega), if_pos (by omega), cl_getR hlt, cl_getR (by omega), hw, ref_Same_l1 l l' m m' e hm k (i + 1) hlt (by omega), List.drop_eq_getElem_cons hlt, List.drop_eq_getElem_cons (show i < m'.length by omega)]
      rw [show eqL eqCl (m[i] :: m.drop (i + 1)) (m'[i] :: m'.drop (i + 1)) = (eqCl m[i] m'[i] && eqL eqCl (m.drop (i + 1)) (m'.drop (i + 1))) from rfl]
      unfold eqCl
      cases (m[i].f0 == m'[i].f0) <;> cases (m[i].f1 == m'[i].f1) <;> rfl
    rw [if_neg (by omega), List.drop_eq_nil_of_le (by omega), List.drop_eq_nil_of_le (by omega)]
    rfl
theorem ref_Same_l0 (l l' : List SM) (m m' : List SC) (e0 : l.length = l'.length) (e : m.length = m'.length) (hl : l.length ≤ 1000000) (hm : m.length ≤ 1000000) : ∀ (k i : Nat), i ≤ l.length → (l.length - i) + m.length + 1 < k → ferryref03_Same.l0 k (i : Int) l m l' m' = some (eqL eqMp (l.drop i) (l'.drop i) && eqL eqCl m m')
  | 0, i, _, h => by omega
  | k + 1, i, hi, h => by
    unfold ferryref03_Same.l0
    by_cases hlt : i < l.length
    · have hw : wrap64 ((i : Int) + 1) = ((i + 1 : Nat) : Int) := by unfold wrap64; omega
      rw [if_pos (by omega), if_pos (by omega), if_pos (by omega), mp_getR hlt, mp_getR (by omega), hw, ref_Same_l0 l l' m m' e0 e hl hm k (i + 1) hlt (by omega), List.drop_eq_getElem_cons hlt, List.drop_eq_getElem_cons (show i < l'.length by omega)]
      rw [show eqL eqMp (l[i] :: l.drop (i + 1)) (l'[i] :: l'.drop (i + 1)) = (eqMp l[i] l'[i] && eqL eqMp (l.drop (i + 1)) (l'.drop (i + 1))) from rfl]
      unfold eqMp
      cases (l[i].f0 == l'[i].f0) <;> cases (l[i].f1 == l'[i].f1) <;> rfl
    rw [if_neg (by omega), List.drop_eq_nil_of_le (by omega), List.drop_eq_nil_of_le (by omega)]
    exact ref_Same_l1 l l' m m' e hm k 0 (Nat.zero_le _) (by omega)
theorem ref_Same (l : List SM) (m : List SC) (l' : List SM) (m' : List SC) (hl : l.length ≤ 1000000) (hm : m.length ≤ 1000000) (k : Nat) (hk : l.length + m.length + 2 < k) : ferryref03_Same.f k l m l' m' = some (sameS l m l' m') := by
  unfold ferryref03_Same.f
  obtain ⟨k, rfl⟩ : ∃ q, k = q + 1 := ⟨k - 1, by omega⟩
  have hne : ∀ b, ferryref03_Same.j0 (k + 1) b l m l' m' = if b = true then some false else ferryref03_Same.l0 k 0 l m l' m' := fun b => rfl
  unfold sameS
  by_cases e : l.length = l'.length
  · rw [if_pos (by omega), hne]
    by_cases e2 : m.length = m'.length
    · rw [bne_eq_false_iff_eq.2 (by omega), if_neg (by decide)]
      exact ref_Same_l0 l l' m m' e e2 hl hm k 0 (Nat.zero_le _) (by omega)
    rw [bne_iff_ne.2 (by omega), if_pos rfl]
    cases h : eqL eqCl m m' with
    | false => rw [Bool.and_false]
    | true => exact absurd (eqL_length h) e2
  rw [if_neg (by omega), hne, if_pos rfl]
  cases h : eqL eqMp l l' with
  | false => rfl
  | true => exact absurd (eqL_length h) e
end Go.Proofs.Ytgkjdpdmmlalcaa.F
end
section
namespace Go.Proofs.Ytgkjdpdmmlalcaa.F
open Go.RowKit Go.Shelf Go.Proofs.YtgkjdpdmmlalcaaW.PrintWords Go.Proofs.YtgkjdpdmmlalcaaW.PrintLast Go.Proofs.YtgkjdpdmmlalcaaW.PrintMore
set_option linter.unusedVariables false
set_option linter.unusedSimpArgs false
def setL (a u : Int) (l : List S88) : List S88 :=
  if has clK a l = true then (if u = 0 then l.eraseIdx (lowB clK a l) else l.set (lowB clK a l) ⟨a, u⟩) else if u = 0 then l else l.take (lowB clK a l) ++ [⟨a, u⟩] ++ l.drop (lowB clK a l)
theorem cl_set1 {w : World} {g cap : Nat} {l : List S88} (h : OwnB clE 88 w g cap l) {i : Nat} (hi : i < l.length) (u : Int) : OwnB clE 88 (w.setCell ⟨g, i * 2 + 1, none⟩ (.int .u64 u)) g cap (l.set i ⟨l[i].f0, u⟩) := by
  have hp := h.put clE_2 i [(⟨l[i].f0, u⟩ : S88)] (by omega) (by have := h.len_le; simp; omega)
  have hc := h.cell clE_2 hi (j := 0) (by omega)
  obtain ⟨cur, h0, h1, h5, h3, h4⟩ := h
  obtain ⟨cur', a0, a1, a2⟩ := setCells_row [Value.int .u64 u] (i * 2 + 1) w cur h0 (by simp; omega)
  obtain ⟨cur2, b0, b1, b2⟩ := setCells_row [Value.int .u64 l[i].f0, Value.int .u64 u] (i * 2) w cur h0 (by simp; omega)
  have hcl : cur.toList.length = cap * 2 := by rw [Array.length_toList, h1]
  have hx : cur.toList[i * 2]'(by omega) = .int .u64 l[i].f0 := by
    rw [sblk_cell h0, Nat.add_zero, ← Array.getElem?_toList, List.getElem?_eq_getElem (by omega)] at hc
    exact Option.some.inj hc
  have he : cur' = cur2 := by
    apply Array.toList_inj.1
    rw [a2, b2, List.take_succ_eq_append_getElem (by omega), hx]
    simp
  have hl : l.set i ⟨l[i].f0, u⟩ = l.take i ++ [(⟨l[i].f0, u⟩ : S88)] ++ l.drop (i + [(⟨l[i].f0, u⟩ : S88)].length) := by
    rw [List.set_eq_take_append_cons_drop, if_pos hi]
    simp
  rw [hl]
  exact hp.move (a0.trans (by rw [he]; exact b0.symm))
set_option maxHeartbeats 8000000 in
set_option maxRecDepth 100000 in
theorem host_set.calls (B : Nat) (ok : Nat → Prop) (v : Value) (l : List S88) (a u : Int) (w : World) (hR : Kd.R k88 88 w B ok v l) (hB : B ≤ w.heap.size) (hl : l.length ≤ 1000000) (hs : Rises clK l) :
    Calls Try.prog 105 #[v, .int .u64 a, .int .u64 u] w fun e w' => ∃ v', e = .returned v' ∧ Kd.R k88 88 w' B (fun _ => True) v' (setL a u l) ∧ Below B w w' := by
  obtain ⟨A, c, rfl, hlc, hC⟩ := Kd.R_reads hR
  have PL := Lib.hid (cl_place.calls 141 set_key.calls (fun _ _ => by kernel_rfl) A c l a w hC hlc hl hs)
  have hlo := lowB_le clK a l
  have hh := has_lowB clK (k := a) hs
  have RR := Lib.hid hR
  have HBB := Lib.hid hB
  unfold setL
  clear hR hs hC hB
  cases hhas : has clK a l
  · rw [hhas] at PL
    rw [if_neg (by simp)]
    clear hh hhas
    generalize lowB clK a l = i at PL hlo ⊢
    by_cases hu : u = 0
    · subst hu
      rw [if_pos rfl]
      go_enter Try.func105, Try.ntmps105
      go_wp2_with (go_at_call 140; (with_reducible refine PL.out.mono ?_); rintro e w1 ⟨rfl, hb⟩)
      go_ret
      exact ⟨_, rfl, Kd.R_mono (Kd.R_below RR.out hb) (fun _ _ => trivial), hb.mono HBB.out⟩
    rw [if_neg hu]
    have hu2 : (u == 0) = false := beq_eq_false_iff_ne.2 hu
    go_enter Try.func105, Try.ntmps105
    go_wp2_with (go_at_call 140; (with_reducible refine PL.out.mono ?_); rintro e w1 ⟨rfl, hb⟩; have R1 := Lib.hid (Kd.R_below RR.out hb); have B1 := Lib.hid hb; clear hb)
    have B2 : Below w1.heap.size w1 (w1.alloc (.cells #[.int .u64 a, .int .u64 u] 88)) := (Below.refl _ w1).alloc (Nat.le_refl _) _
    have OV : OwnB clE 88 (w1.alloc (.cells #[.int .u64 a, .int .u64 u] 88)) w1.heap.size 1 [⟨a, u⟩] := ⟨_, blk_new w1 _, rfl, by omega, by simp, rfl⟩
    have hs1 : (w1.alloc (.cells #[.int .u64 a, .int .u64 u] 88)).heap.size = w1.heap.size + 1 := World.size_alloc _ _
    rcases cl_own R1.out with ⟨hv, hn⟩ | ⟨g, cap, hv, hg, ho⟩
    · subst hn
      obtain rfl : i = 0 := by simpa using hlo
      injection hv with hA _ hcc
      subst hA; subst hcc
      refine (cl_ins_nil.calls w1.heap.size 1 [⟨a, u⟩] _ OV (by simp) (by simp)).mono ?_
      rintro e w2 ⟨g', cap', rfl, h1, h2, h3⟩
      have O2 := Lib.hid h1
      have G2 := Lib.hid (show B ≤ g' by have := B1.out.size; have := HBB.out; omega)
      have B3 := Lib.hid ((B1.out.mono HBB.out).trans ((B2.mono (Nat.le_trans HBB.out B1.out.size)).trans (h3.mono (by have := B1.out.size; have := HBB.out; omega))))
      clear h1 h2 h3 OV B2 hs1
      go_wp2
      go_ret
      exact ⟨_, rfl, cl_R O2.out G2.out, B3.out⟩
    · injection hv with hA _ hcc
      subst hA; subst hcc
      refine (cl_ins.calls g c w1.heap.size 1 i l [⟨a, u⟩] _ (ho.below B2) OV (by have := ho.lt; omega) hl (by simp) (by simp) hlo).mono ?_
      rintro e w2 ⟨g', cap', rfl, h1, h2, h3⟩
      have O2 := Lib.hid h1
      have G2 := Lib.hid (show B ≤ g' by have := B1.out.size; have := HBB.out; rcases h2 with h | h <;> omega)
      have B3 := Lib.hid ((B1.out.mono HBB.out).trans ((B2.mono (Nat.le_trans HBB.out B1.out.size)).trans (below_of_grown (Below.refl _ _) h3 hg (by have := B1.out.size; have := HBB.out; omega))))
      have L2 := Lib.hid (show (l.take i ++ [(⟨a, u⟩ : S88)] ++ l.drop i).length = l.length + [(⟨a, u⟩ : S88)].length by rw [List.length_append, List.length_append, List.length_take, List.length_drop]; omega)
      clear h1 h2 h3 OV B2 hs1 ho hg
      go_wp2
      go_ret
      have hRR := cl_R O2.out G2.out
      rw [L2.out] at hRR
      exact ⟨_, rfl, hRR, B3.out⟩
  · rw [hhas] at PL hh
    rw [if_pos rfl]
    clear hhas
    generalize lowB clK a l = i at PL hlo hh ⊢
    have hi : i < l.length := by
      rcases Nat.lt_or_ge i l.length with h | h
      · exact h
      · rw [List.getElem?_eq_none h] at hh
        cases hh
    rw [List.getElem?_eq_getElem hi] at hh
    have hx : l[i].f0 = a := of_decide_eq_true hh.symm
    clear hh
    rcases cl_own RR.out with ⟨_, h5⟩ | ⟨g, cap, hv, hg, ho⟩
    · subst h5
      simp at hi
    injection hv with hA _ hcc
    subst hA; subst hcc
    have HO := Lib.hid ho
    have HG := Lib.hid hg
    have HX := Lib.hid hx
    clear ho hg hx
    by_cases hu : u = 0
    · subst hu
      rw [if_pos rfl]
      go_enter Try.func105, Try.ntmps105
      go_wp2_with (go_at_call 140; (with_reducible refine PL.out.mono ?_); rintro e w1 ⟨rfl, hb⟩; have O1 := Lib.hid (HO.out.below hb); have B1 := Lib.hid hb; clear hb)
      have hd := cl_del.calls g c i (i + 1) l w1 O1.out hl hi rfl
      rw [show ((i + 1 : Nat) : Int) = (i : Int) + 1 from rfl] at hd
      refine hd.mono ?_
      clear hd
      rintro e w2 ⟨rfl, h1, h2⟩
      have O2 := Lib.hid h1
      have B2 := Lib.hid (below_of_grown (B1.out.mono HBB.out) h2 HG.out (Nat.le_trans HBB.out B1.out.size))
      have L2 := Lib.hid (show (l.eraseIdx i).length = l.length - 1 from List.length_eraseIdx_of_lt hi)
      clear h1 h2
      go_wp2
      go_ret
      have hRR := cl_R O2.out HG.out
      rw [L2.out] at hRR
      exact ⟨_, rfl, hRR, B2.out⟩
    rw [if_neg hu]
    have hu2 : (u == 0) = false := beq_eq_false_iff_ne.2 hu
    go_enter Try.func105, Try.ntmps105
    go_wp2_with (go_at_call 140; (with_reducible refine PL.out.mono ?_); rintro e w1 ⟨rfl, hb⟩; have O1 := Lib.hid (HO.out.below hb); have B1 := Lib.hid hb; clear hb; have e1 := O1.out.cell clE_2 hi (j := 1) (by omega); have z1 := O1.out.free (i * 2 + 1); simp only [clE, List.getElem?_cons_succ, List.getElem?_cons_zero] at e1)
    have h2 := cl_set1 O1.out hi u
    rw [HX.out] at h2
    have hRR := cl_R h2 HG.out
    rw [List.length_set] at hRR
    exact bodyPost_ret (v := .slice (some ⟨g, 0, none⟩) l.length c) (by simp [results, Try.results105, go_sem]) rfl ⟨_, rfl, hRR, (B1.out.mono HBB.out).setCell HG.out _⟩
end Go.Proofs.Ytgkjdpdmmlalcaa.F
end
section
namespace Go.Proofs.Ytgkjdpdmmlalcaa.F
open Go.RowKit Go.Shelf Go.Proofs.YtgkjdpdmmlalcaaW.PrintWords Go.Proofs.YtgkjdpdmmlalcaaW.PrintLast Go.Proofs.YtgkjdpdmmlalcaaW.PrintMore
set_option linter.unusedVariables false
set_option linter.unusedSimpArgs false
structure HW (w W : World) (m c x y : Value) : Prop where
  bel : Below w.heap.size w W
  h : W.heap[w.heap.size]? = some (.cells #[m, c] 25 (0, 0))
  r : W.heap[w.heap.size + 1]? = some (.cells #[x, y] 25 (0, 0))
  s : w.heap.size + 2 ≤ W.heap.size
theorem HW.first (w : World) (m c x y : Value) : HW w ((w.alloc (.cells #[m, c] 25)).alloc (.cells #[x, y] 25)) m c x y := by
  have s1 : ∀ (W : World) o, (W.alloc o).heap.size = W.heap.size + 1 := fun W o => World.size_alloc W o
  have b1 : Below w.heap.size w (w.alloc (.cells #[m, c] 25)) := (Below.refl _ _).alloc (Nat.le_refl _) _
  have b2 := b1.alloc (by rw [s1]; omega) (.cells #[x, y] 25)
  have n1 := blk_new w (.cells #[m, c] 25)
  have n2 := blk_new (w.alloc (.cells #[m, c] 25)) (.cells #[x, y] 25)
  rw [s1] at n2
  exact ⟨b2, blk_alloc n1 _, n2, by rw [s1, s1]; omega⟩
theorem HW.step {w W W' : World} {m c x y : Value} (h : HW w W m c x y) (hb : Below (w.heap.size + 2) W W') : HW w W' m c x y :=
  ⟨h.bel.trans (hb.mono (by omega)), (hb.block _ (by omega)).trans h.h, (hb.block _ (by omega)).trans h.r, Nat.le_trans h.s hb.size⟩
theorem HW.below {w W W' : World} {m c x y : Value} (h : HW w W m c x y) (hb : Below W.heap.size W W') : HW w W' m c x y := h.step (hb.mono h.s)
theorem HW.set1 {w W : World} {m c x y : Value} (h : HW w W m c x y) (u : Value) : HW w (W.setCell ⟨w.heap.size, 1, none⟩ u) m u x y :=
  have hk : ∀ k, k ≠ w.heap.size → (W.setCell ⟨w.heap.size, 1, none⟩ u).heap[k]? = W.heap[k]? := fun k hk => Below.heap_setCell W _ u k hk
  ⟨h.bel.setCell (Nat.le_refl _) _, blk_put h.h 1 u rfl, (hk _ (by omega)).trans h.r, by simpa [World.setCell] using h.s⟩
theorem HW.setR {w W : World} {m c x y : Value} (h : HW w W m c x y) (u v : Value) : HW w ((W.setCell ⟨w.heap.size + 1, 0, none⟩ u).setCell ⟨w.heap.size + 1, 1, none⟩ v) m c u v :=
  have hk : ∀ k, k ≠ w.heap.size + 1 → ((W.setCell ⟨w.heap.size + 1, 0, none⟩ u).setCell ⟨w.heap.size + 1, 1, none⟩ v).heap[k]? = W.heap[k]? := fun k hk => (Below.heap_setCell _ _ v k hk).trans (Below.heap_setCell W _ u k hk)
  ⟨(h.bel.setCell (by show w.heap.size ≤ w.heap.size + 1; omega) _).setCell (by show w.heap.size ≤ w.heap.size + 1; omega) _, (hk _ (by omega)).trans h.h, blk_put (blk_put h.r 0 u rfl) 1 v rfl, by simpa [World.setCell] using h.s⟩
def clrStep (a1 a2 a : Int) (u : Int) (k : Nat) : Int := if withB (IntKind.u64.wrap (a + (k : Int))) a1 a2 = true then Go.bits .andNot .u64 u (IntKind.u64.wrap (255 * 2 ^ (8 * k))) else u
def clrW (a1 a2 a u : Int) (k : Nat) : Int := (List.range k).foldl (clrStep a1 a2 a) u
theorem clrW_succ (a1 a2 a u : Int) (k : Nat) : clrW a1 a2 a u (k + 1) = clrStep a1 a2 a (clrW a1 a2 a u k) k := by
  unfold clrW
  rw [List.range_succ, List.foldl_append]
  rfl
def clrC (a1 a2 : Int) (x : S88) : S88 := ⟨x.f0, clrW a1 a2 x.f0 x.f1 8⟩
end Go.Proofs.Ytgkjdpdmmlalcaa.F
end
section
namespace Go.Proofs.Ytgkjdpdmmlalcaa.F
open Go.RowKit Go.Proofs.YtgkjdpdmmlalcaaW.PrintWords Go.Proofs.YtgkjdpdmmlalcaaW.PrintLast Go.Proofs.YtgkjdpdmmlalcaaW.PrintMore
attribute [local go_sem] max2_int min2_int max_two min_two max_three min_three max_four min_four
set_option linter.unusedVariables false
set_option linter.unusedSimpArgs false

def ferryref03_wrong.f (a0 : Int) (a1 : Int) (a2 : Int) : Option (Bool) := if a1 = 0 then (some true) else (if a0 ≥ 1125899906842624 then (some true) else (if a1 > (IntKind.u64.wrap (1125899906842624 - a0)) then (some true) else (if a2 < 0 then (some true) else (some (decide (a2 > 7))))))
set_option maxHeartbeats 8000000 in
set_option maxRecDepth 100000 in
theorem ferryref03_wrong.calls (a0 : Int) (a1 : Int) (a2 : Int) (r : Bool) (w : World) (h : ferryref03_wrong.f a0 a1 a2 = some r) :
    Calls Try.prog 102 #[.int .u64 a0, .int .u64 a1, .int .i64 a2] w fun e w' => e = .returned (.bool r) ∧ Drawn0 w w' := by
  have H : (if a1 = 0 then (some true) else (if a0 ≥ 1125899906842624 then (some true) else (if a1 > (IntKind.u64.wrap (1125899906842624 - a0)) then (some true) else (if a2 < 0 then (some true) else (some (decide (a2 > 7))))))) = some r := h
  clear h
  by_cases c4 : a1 = 0
  · rw [if_pos c4] at H
    have c4b0 : (a1 == 0) = true := beq_iff_eq.mpr c4
    have c4b1 : (a1 != 0) = false := bne_eq_false_iff_eq.mpr c4
    clear c4
    obtain rfl := Option.some.inj H
    go_enter Try.func102, Try.ntmps102
    go_wp2
    go_ret
    exact ⟨by first | rfl | (simp; done) | (simp [*]; done), by repeat (first | exact Drawn0.refl _ | apply Drawn0.step)⟩
  rw [if_neg c4] at H
  have c4b0 : (a1 == 0) = false := beq_eq_false_iff_ne.mpr c4
  have c4b1 : (a1 != 0) = true := bne_iff_ne.mpr c4
  by_cases c5 : a0 ≥ 1125899906842624
  · rw [if_pos c5] at H
    have c5b0 : decide (1125899906842624 ≤ a0) = true := decide_eq_true c5
    clear c5
    obtain rfl := Option.some.inj H
    go_enter Try.func102, Try.ntmps102
    go_wp2
    go_ret
    exact ⟨by first | rfl | (simp; done) | (simp [*]; done), by repeat (first | exact Drawn0.refl _ | apply Drawn0.step)⟩
  rw [if_neg c5] at H
  have c5b0 : decide (1125899906842624 ≤ a0) = false := decide_eq_false c5
  clear c5
  by_cases c6 : a1 > (IntKind.u64.wrap (1125899906842624 - a0))
  · rw [if_pos c6] at H
    have c6b0 : decide ((IntKind.u64.wrap (1125899906842624 - a0)) < a1) = true := decide_eq_true c6
    clear c6
    obtain rfl := Option.some.inj H
    go_enter Try.func102, Try.ntmps102
    go_wp2
    go_ret
    exact ⟨by first | rfl | (simp; done) | (simp [*]; done), by repeat (first | exact Drawn0.refl _ | apply Drawn0.step)⟩
  rw [if_neg c6] at H
  have c6b0 : decide ((IntKind.u64.wrap (1125899906842624 - a0)) < a1) = false := decide_eq_false c6
  clear c6
  by_cases c7 : a2 < 0
  · rw [if_pos c7] at H
    have c7b0 : decide (a2 < 0) = true := decide_eq_true c7
    clear c7
    obtain rfl := Option.some.inj H
    go_enter Try.func102, Try.ntmps102
    go_wp2
    go_ret
    exact ⟨by first | rfl | (simp; done) | (simp [*]; done), by repeat (first | exact Drawn0.refl _ | apply Drawn0.step)⟩
  rw [if_neg c7] at H
  have c7b0 : decide (a2 < 0) = false := decide_eq_false c7
  clear c7
  obtain rfl := Option.some.inj H
  go_enter Try.func102, Try.ntmps102
  go_wp2
  go_ret
  exact ⟨by first | rfl | (simp; done) | (simp [*]; done), by repeat (first | exact Drawn0.refl _ | apply Drawn0.step)⟩

end Go.Proofs.Ytgkjdpdmmlalcaa.F
end
