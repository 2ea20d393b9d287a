import Derived.Test.YtgkjdpdmmlalcaaKZF0
import Derived.Test.YtgkjdpdmmlalcaaKA0
import Derived.Test.YtgkjdpdmmlalcaaKA5
import Derived.Test.YtgkjdpdmmlalcaaKA9FFerryref03Poke
section
namespace Go.Proofs.Ytgkjdpdmmlalcaa.F
open Go.RowKit Go.Proofs.YtgkjdpdmmlalcaaW.PrintWords Go.Proofs.YtgkjdpdmmlalcaaW.PrintLast Go.Proofs.YtgkjdpdmmlalcaaW.PrintMore
attribute [local go_sem] max2_int min2_int max_two min_two max_three min_three max_four min_four
attribute [local go_sem] cell_twice
set_option linter.unusedVariables false
set_option linter.unusedSimpArgs false

mutual
def ferryref03_Store.j0 : Nat → Int → Int → Int → Bool → List (S83) → List (S88) → Option ((List (S83)) × (List (S88)) × Int × Int)
  | 0, _, _, _, _, _, _ => none
  | k + 1, x1, x2, x3, x17, x448000, x448001 => if x17 = true then (some (x448000, x448001, 0, 0)) else ((ferryref03_ask.f k x448000 x448001 x1 x2 2).bind fun bt450 => (if bt450.1 = 0 then (ferryref03_Store.l0 k x1 x2 x3 0 x448000 x448001) else (some (x448000, x448001, bt450.1, bt450.2))))
def ferryref03_Store.l0 : Nat → Int → Int → Int → Int → List (S83) → List (S88) → Option ((List (S83)) × (List (S88)) × Int × Int)
  | 0, _, _, _, _, _, _ => none
  | k + 1, x1, x2, x3, x11, x448000, x448001 => if x11 < x2 then ((ferryref03_poke.f k x448000 x448001 (IntKind.u64.wrap (x1 + (IntKind.u64.wrap (x11)))) ((x3) % 256)).bind fun bt453 => (ferryref03_Store.l0 k x1 x2 (IntKind.u64.wrap (Int.tdiv x3 256)) (wrap64 (x11 + 1)) bt453.1 bt453.2)) else (some (x448000, x448001, 0, 0))
end
def ferryref03_Store.f (k : Nat) (l0_0 : List (S83)) (l0_1 : List (S88)) (a1 : Int) (a2 : Int) (a3 : Int) : Option ((List (S83)) × (List (S88)) × Int × Int) := if a2 < 1 then (ferryref03_Store.j0 k a1 a2 a3 true l0_0 l0_1) else (ferryref03_Store.j0 k a1 a2 a3 (decide (a2 > 8)) l0_0 l0_1)
set_option maxHeartbeats 8000000 in
set_option maxRecDepth 100000 in
theorem ferryref03_Store.calls (k : Nat) (P0_0_ : Nat → Prop) (A0_0 : Option Addr) (c0_0 : Nat) (l0_0 : List (S83)) (P0_1_ : Nat → Prop) (A0_1 : Option Addr) (c0_1 : Nat) (l0_1 : List (S88)) (a1 : Int) (a2 : Int) (a3 : Int) (r1 : List (S83)) (r2 : List (S88)) (r3 : Int) (r4 : Int) (w : World) (hs0_0 : Kd.V k83 83 w w.heap.size (fun k_ => P0_0_ k_) (.slice A0_0 l0_0.length c0_0) l0_0) (hs0_1 : Kd.V k88 88 w w.heap.size (fun k_ => P0_1_ k_) (.slice A0_1 l0_1.length c0_1) l0_1) (h : ferryref03_Store.f k l0_0 l0_1 a1 a2 a3 = some (r1, r2, r3, r4)) :
    Calls Try.prog 81 #[.agg #[.slice A0_0 l0_0.length c0_0, .slice A0_1 l0_1.length c0_1], .int .u64 a1, .int .i64 a2, .int .u64 a3] w fun e w' => ∃ v0_ v1_ : Value, e = .returned (.tuple #[.agg #[v0_, v1_], .agg #[.int .i64 r3, .int .u64 r4]]) ∧ Kd.V k83 83 w' w.heap.size (fun k_ => ((P0_0_ k_ ∨ P0_1_ k_) ∨ w.heap.size ≤ k_)) v0_ r1 ∧ Kd.V k88 88 w' w.heap.size (fun k_ => ((P0_0_ k_ ∨ P0_1_ k_) ∨ w.heap.size ≤ k_)) v1_ r2 ∧ Below w.heap.size w w' := by
  have hu25 := Try.underlying25
  have hu34 := Try.underlying34
  have HO0_0 := Aside0.mk (show Kd.V k83 83 w w.heap.size (fun k_ => ((P0_0_ k_ ∨ P0_1_ k_) ∨ w.heap.size ≤ k_)) (.slice A0_0 l0_0.length c0_0) l0_0 from Kd.V_mono hs0_0 (fun k_ hk => .inl (.inl hk)))
  have HO0_1 := Aside0.mk (show Kd.V k88 88 w w.heap.size (fun k_ => ((P0_0_ k_ ∨ P0_1_ k_) ∨ w.heap.size ≤ k_)) (.slice A0_1 l0_1.length c0_1) l0_1 from Kd.V_mono hs0_1 (fun k_ hk => .inl (.inr hk)))
  have HB := Aside0.mk (Below.refl w.heap.size w)
  have H : (if a2 < 1 then (ferryref03_Store.j0 k a1 a2 a3 true l0_0 l0_1) else (ferryref03_Store.j0 k a1 a2 a3 (decide (a2 > 8)) l0_0 l0_1)) = some (r1, r2, r3, r4) := h
  clear h
  have HC5 := Aside0.mk H
  clear H
  go_enter Try.func81, Try.ntmps81
  go_upto_region 1 with (first | ((with_reducible refine gate_dst (N := 4) rfl ?_); refine bE_ 4 #[.slice A0_0 l0_0.length c0_0, .slice A0_1 l0_1.length c0_1] 25 ?_; intro gb447 hg w6 hbox hb; have BK447 := Aside0.mk hbox; have GW447 := geT_ w.heap.size hg; have GE447 := geT_ w.heap.size hg; replace HO0_0 := vE_ HO0_0.out hg hb; replace HO0_1 := vE_ HO0_1.out hg hb; replace HB := hB_ hb; clear hb hbox hg) | ((with_reducible refine gate_dst (N := 8) rfl ?_); refine bE_ 8 #[.slice none 0 0, .slice none 0 0] 25 ?_; intro gb448 hg w7 hbox hb; have BK448 := Aside0.mk hbox; have GW448 := geT_ w.heap.size hg; have GE448 := geT_ w.heap.size hg; have NB447_448 := nlT_ BK447.out hg; have NB448_447 := ngT_ BK447.out hg; replace HO0_0 := vE_ HO0_0.out hg hb; replace HO0_1 := vE_ HO0_1.out hg hb; replace BK447 := kB_ BK447 hb; replace HB := hB_ hb; clear hb hbox hg) | ((with_reducible refine gate_dst (N := 9) rfl ?_); refine bE_ 9 #[.int .i64 0, .int .u64 0] 34 ?_; intro gb449 hg w8 hbox hb; have BK449 := Aside0.mk hbox; have GW449 := geT_ w.heap.size hg; have GE449 := geT_ w.heap.size hg; have NB447_449 := nlT_ BK447.out hg; have NB449_447 := ngT_ BK447.out hg; have NB448_449 := nlT_ BK448.out hg; have NB449_448 := ngT_ BK448.out hg; replace HO0_0 := vE_ HO0_0.out hg hb; replace HO0_1 := vE_ HO0_1.out hg hb; replace BK447 := kB_ BK447 hb; replace BK448 := kB_ BK448 hb; replace HB := hB_ hb; clear hb hbox hg))
  (try simp only [Act.put, List.setIfInBounds_toArray, List.set_cons_zero, List.set_cons_succ])
  go_cut [17] (fun v17 wc => ∃ (kq : Nat) (x17_4 : Bool), v17 = .bool x17_4 ∧ Aside0 (ferryref03_Store.j0 kq a1 a2 a3 x17_4 l0_0 l0_1 = some (r1, r2, r3, r4)) ∧ Aside0 (kq ≤ k) ∧ Aside0 (Kd.V k83 83 wc w.heap.size (fun k_ => ((P0_0_ k_ ∨ P0_1_ k_) ∨ w.heap.size ≤ k_) ∧ k_ ≠ gb447 ∧ k_ ≠ gb448 ∧ k_ ≠ gb449) (.slice A0_0 l0_0.length c0_0) l0_0) ∧ Aside0 (Kd.V k88 88 wc w.heap.size (fun k_ => ((P0_0_ k_ ∨ P0_1_ k_) ∨ w.heap.size ≤ k_) ∧ k_ ≠ gb447 ∧ k_ ≠ gb448 ∧ k_ ≠ gb449) (.slice A0_1 l0_1.length c0_1) l0_1) ∧ Aside0 (wc.heap[gb447]? = some (.cells #[(.slice A0_0 l0_0.length c0_0), (.slice A0_1 l0_1.length c0_1)] 25 (0, 0))) ∧ Aside0 (wc.heap[gb448]? = some (.cells #[(.slice none 0 0), (.slice none 0 0)] 25 (0, 0))) ∧ Aside0 (wc.heap[gb449]? = some (.cells #[.int .i64 0, .int .u64 0] 34 (0, 0))) ∧ Aside0 (Below w.heap.size w wc))
  case first =>
    have H := HC5.out
    clear HC5
    by_cases c9 : a2 < 1
    · rw [if_pos c9] at H
      have c9b0 : decide (a2 < 1) = true := decide_eq_true c9
      clear c9
      (skip)
      have H' := Aside0.mk H
      clear H
      go_wp2
      go_meet
      case rel => exact ⟨_, (true), r1_, H', ⟨r2_⟩, ⟨vM_ HO0_0.out⟩, ⟨vM_ HO0_1.out⟩, ⟨bT_ BK447.out⟩, ⟨bT_ BK448.out⟩, ⟨bT_ BK449.out⟩, ⟨beT_⟩⟩
    rw [if_neg c9] at H
    have c9b0 : decide (a2 < 1) = false := decide_eq_false c9
    clear c9
    (skip)
    have H' := Aside0.mk H
    clear H
    go_wp2
    go_meet
    case rel => exact ⟨_, (decide (a2 > 8)), r1_, H', ⟨r2_⟩, ⟨vM_ HO0_0.out⟩, ⟨vM_ HO0_1.out⟩, ⟨bT_ BK447.out⟩, ⟨bT_ BK448.out⟩, ⟨bT_ BK449.out⟩, ⟨beT_⟩⟩
  case rest =>
    clear HC5
    obtain ⟨kq, x17_4, rfl, HA, HJ4, HO_448000, HO_448001, BK447, BK448, BK449, HB⟩ := hcut
    cases kq with
    | zero => exact absurd HA.out (by simp [ferryref03_Store.j0])
    | succ kj4 =>
      have H := HA.out
      clear HA
      simp only [ferryref03_Store.j0] at H
      by_cases c10 : x17_4 = true
      · subst c10
        replace H := hP_ H
        simp only [Option.some.injEq, Prod.mk.injEq] at H
        obtain ⟨rfl, rfl, rfl, rfl⟩ := H
        have hnb11 := NB447_448.out
        have hnc11 := NB448_447.out
        have hnb12 := NB447_449.out
        have hnc12 := NB449_447.out
        obtain ⟨hcz13_0, hcz13_1, hfz13_0, hfz13_1⟩ := b2_ BK447.out
        have hnb14 := NB448_449.out
        have hnc14 := NB449_448.out
        obtain ⟨hcz15_0, hcz15_1, hfz15_0, hfz15_1⟩ := b2_ BK448.out
        obtain ⟨hcz16_0, hcz16_1, hfz16_0, hfz16_1⟩ := b2_ BK449.out
        go_wp2
        refine bodyPost_ret (results_cc rfl _ _ gb448 gb449 25 34 #[.slice A0_0 l0_0.length c0_0, .slice A0_1 l0_1.length c0_1] #[.int .i64 0, .int .u64 0] (0, 0) (0, 0) _ _ rfl (kP_ BK448.out) Try.underlying25 rfl (by kernel_rfl) rfl (kP_ BK449.out) Try.underlying34 rfl (by kernel_rfl)) rfl ?_
        exact ⟨_, _, r3_, (vF_ HO_448000.out), (vF_ HO_448001.out), beT_⟩
      replace c10 := Bool.eq_false_iff.mpr c10
      subst c10
      replace H := hN_ H
      replace H := Option.bind_eq_some_iff.mp H
      obtain ⟨⟨t450, t451⟩, A170, H⟩ := H
      have A17 := Aside0.mk A170
      clear A170
      by_cases c18 : t450 = 0
      · rw [if_pos c18] at H
        have c18b0 : (t450 == 0) = true := beq_iff_eq.mpr c18
        have c18b1 : (t450 != 0) = false := bne_eq_false_iff_eq.mpr c18
        clear c18
        have H' := Aside0.mk H
        clear H
        have hnb19 := NB447_448.out
        have hnc19 := NB448_447.out
        have hnb20 := NB447_449.out
        have hnc20 := NB449_447.out
        obtain ⟨hcz21_0, hcz21_1, hfz21_0, hfz21_1⟩ := b2_ BK447.out
        go_wp2_with (first | ((with_reducible refine gate_callee (f := 108) rfl ?_); refine gL_ (some 23) Try.func108 #[.agg #[.slice A0_0 l0_0.length c0_0, .slice A0_1 l0_1.length c0_1], .int .u64 a1, .int .i64 a2, .int .i64 2] ?_; (with_reducible refine (ferryref03_ask.calls kj4 _ _ l0_0 _ _ l0_1 a1 a2 2 t450 t451 _ ?side1 ?side2 ?side3 ?side4 A17.out).mono ?_); (case side1 => exact cT_ (Kd.V_reads' HO_448000.out).2.2); (case side2 => exact (Kd.V_reads' HO_448000.out).2.1); (case side3 => exact cT_ (Kd.V_reads' HO_448001.out).2.2); (case side4 => exact (Kd.V_reads' HO_448001.out).2.1); rintro e w22 ⟨rfl, hb⟩; refine ⟨_, rfl, ?_⟩; replace HO_448000 := vB_ HO_448000.out hb; replace HO_448001 := vB_ HO_448001.out hb; replace BK447 := kB_ BK447 hb; replace BK448 := kB_ BK448 hb; replace BK449 := kB_ BK449 hb; replace HB := hB_ hb; (try clear hb)) | ((with_reducible refine gate_dst (N := 10) rfl ?_); refine bE_ 10 #[.int .i64 0, .int .u64 0] 34 ?_; intro gb452 hg w23 hbox hb; have BK452 := Aside0.mk hbox; have GW452 := geT_ w.heap.size hg; have GE452 := geT_ w.heap.size hg; have NB447_452 := nlT_ BK447.out hg; have NB452_447 := ngT_ BK447.out hg; have NB448_452 := nlT_ BK448.out hg; have NB452_448 := ngT_ BK448.out hg; have NB449_452 := nlT_ BK449.out hg; have NB452_449 := ngT_ BK449.out hg; replace HO_448000 := vE_ HO_448000.out hg hb; replace HO_448001 := vE_ HO_448001.out hg hb; replace BK447 := kB_ BK447 hb; replace BK448 := kB_ BK448 hb; replace BK449 := kB_ BK449 hb; replace HB := hB_ hb; clear hb hbox hg; have hnb24 := NB452_447.out; have hnc24 := NB447_452.out; have hnb25 := NB452_448.out; have hnc25 := NB448_452.out; have hnb26 := NB452_449.out; have hnc26 := NB449_452.out; obtain ⟨hcz27_0, hcz27_1, hfz27_0, hfz27_1⟩ := b2_ BK452.out))
        go_loopg [3, 11] kj4 (fun kq v3 v11 w' => ∃ (x3_2 : Int) (x11_2 : Int) (x448000_2 : List (S83)) (x448001_2 : List (S88)) (u448000 : Value) (u448001 : Value), v3 = .int .u64 x3_2 ∧ v11 = .int .i64 x11_2 ∧ Aside0 (ferryref03_Store.l0 kq a1 a2 x3_2 x11_2 x448000_2 x448001_2 = some (r1, r2, r3, r4)) ∧ Aside0 (kq ≤ kj4) ∧ Aside0 (Kd.V k83 83 w' w.heap.size (fun k_ => ((P0_0_ k_ ∨ P0_1_ k_) ∨ w.heap.size ≤ k_) ∧ k_ ≠ gb447 ∧ k_ ≠ gb448 ∧ k_ ≠ gb449 ∧ k_ ≠ gb452) u448000 x448000_2) ∧ Aside0 (Kd.V k88 88 w' w.heap.size (fun k_ => ((P0_0_ k_ ∨ P0_1_ k_) ∨ w.heap.size ≤ k_) ∧ k_ ≠ gb447 ∧ k_ ≠ gb448 ∧ k_ ≠ gb449 ∧ k_ ≠ gb452) u448001 x448001_2) ∧ Aside0 (w'.heap[gb447]? = some (.cells #[u448000, u448001] 25 (0, 0))) ∧ Aside0 (w'.heap[gb448]? = some (.cells #[(.slice none 0 0), (.slice none 0 0)] 25 (0, 0))) ∧ Aside0 (w'.heap[gb449]? = some (.cells #[.int .i64 0, .int .u64 0] 34 (0, 0))) ∧ Aside0 (w'.heap[gb452]? = some (.cells #[.int .i64 t450, .int .u64 t451] 34 (0, 0))) ∧ Aside0 (Below w.heap.size w w'))
        case atStart => exact ⟨(a3), (0), (l0_0), (l0_1), (.slice A0_0 l0_0.length c0_0), (.slice A0_1 l0_1.length c0_1), r1_, r1_, H', ⟨Nat.le_refl _⟩, ⟨vF_ HO_448000.out⟩, ⟨vF_ HO_448001.out⟩, ⟨bfT_ BK447.out⟩, ⟨bfT_ BK448.out⟩, ⟨bfT_ BK449.out⟩, ⟨kP_ BK452.out⟩, ⟨beT_⟩⟩
        case round =>
          clear H'
          try clear c18b0
          try clear c18b1
          try clear hcz21_0
          try clear hcz21_1
          try clear hcz27_0
          try clear hcz27_1
          try clear hfz21_0
          try clear hfz21_1
          try clear hfz27_0
          try clear hfz27_1
          obtain ⟨x3_2, x11_2, x448000_2, x448001_2, u448000, u448001, rfl, rfl, HA, HK2, HO_448000, HO_448001, BK447, BK448, BK449, BK452, HB⟩ := hrel
          cases gk with
          | zero => exact absurd HA.out (by simp [ferryref03_Store.l0])
          | succ k2 =>
            have H := HA.out
            clear HA
            simp only [ferryref03_Store.l0] at H
            by_cases c28 : x11_2 < a2
            · rw [if_pos c28] at H
              have c28b0 : decide (x11_2 < a2) = true := decide_eq_true c28
              clear c28
              replace H := Option.bind_eq_some_iff.mp H
              obtain ⟨⟨t453, t456⟩, A290, H⟩ := H
              have A29 := Aside0.mk A290
              clear A290
              have H' := Aside0.mk H
              clear H
              have hnb30 := NB447_448.out
              have hnc30 := NB448_447.out
              have hnb31 := NB447_449.out
              have hnc31 := NB449_447.out
              have hnb32 := NB447_452.out
              have hnc32 := NB452_447.out
              obtain ⟨hcz33_0, hcz33_1, hfz33_0, hfz33_1⟩ := b2_ BK447.out
              obtain ⟨Ao34, co34, eo34⟩ := Kd.V_slice HO_448000.out
              subst eo34
              obtain ⟨Ao35, co35, eo35⟩ := Kd.V_slice HO_448001.out
              subst eo35
              go_wp2_with (((with_reducible refine gate_callee (f := 109) rfl ?_); refine gL_ (some 41) Try.func109 #[.agg #[.slice Ao34 x448000_2.length co34, .slice Ao35 x448001_2.length co35], .int .u64 (IntKind.u64.wrap (a1 + (IntKind.u64.wrap (x11_2)))), .int .u8 ((x3_2) % 256)] ?_; (with_reducible refine (ferryref03_poke.calls k2 (fun k_ => (((P0_0_ k_ ∨ P0_1_ k_) ∨ w.heap.size ≤ k_) ∧ (k_ ≠ gb447 ∧ (k_ ≠ gb448 ∧ (k_ ≠ gb449 ∧ k_ ≠ gb452))))) _ _ x448000_2 _ _ x448001_2 (IntKind.u64.wrap (a1 + (IntKind.u64.wrap (x11_2)))) ((x3_2) % 256) t453 t456 _ ?side1 ?side2 ?side3 A29.out).mono ?_); (case side1 => exact HO_448000.out); (case side2 => exact cT_ (Kd.V_reads' HO_448001.out).2.2); (case side3 => exact (Kd.V_reads' HO_448001.out).2.1); rintro e w36 ⟨v454, v457, rfl, ho0, ho1, hb⟩; refine ⟨_, rfl, ?_⟩; have HO455 := Aside0.mk (Kd.V_lower (Kd.V_mono (ok' := fun k_ => ((P0_0_ k_ ∨ P0_1_ k_) ∨ w.heap.size ≤ k_) ∧ some k_ ≠ (v457 : Value).ownBlock ∧ k_ ≠ gb447 ∧ k_ ≠ gb448 ∧ k_ ≠ gb449 ∧ k_ ≠ gb452) ho0 (fun k_ hk_ => ⟨Or.elim hk_.1 (fun hs_ => hs_.1) (fun hn_ => (.inr (Nat.le_trans (below_size beT_) hn_))), hk_.2, Or.elim hk_.1 (fun hs_ => hs_.2.1) (fun hn_ => (Kd.freshB (g := gb447) (o := .cells #[.slice Ao34 x448000_2.length co34, .slice Ao35 x448001_2.length co35] 25 (0, 0)) (bT_ BK447.out) k_ hn_)), Or.elim hk_.1 (fun hs_ => hs_.2.2.1) (fun hn_ => (Kd.freshB (g := gb448) (o := .cells #[.slice none 0 0, .slice none 0 0] 25 (0, 0)) (bT_ BK448.out) k_ hn_)), Or.elim hk_.1 (fun hs_ => hs_.2.2.2.1) (fun hn_ => (Kd.freshB (g := gb449) (o := .cells #[.int .i64 0, .int .u64 0] 34 (0, 0)) (bT_ BK449.out) k_ hn_)), Or.elim hk_.1 (fun hs_ => hs_.2.2.2.2) (fun hn_ => (Kd.freshB (g := gb452) (o := .cells #[.int .i64 t450, .int .u64 t451] 34 (0, 0)) (bT_ BK452.out) k_ hn_))⟩)) (below_size beT_)); have HO458 := Aside0.mk (Kd.R_lower (Kd.R_newM (M := fun k_ => (w.heap.size ≤ k_)) (Kd.R_mono (ok' := fun k_ => True) ho1 (fun _ hk_ => trivial)) (below_size beT_) (fun k_ h_ => h_)) (below_size beT_)); replace HO_448000 := Aside0.mk (Kd.V_elder' (vT_ HO_448000.out) (Kd.R_base ho1) hb); replace HO_448001 := Aside0.mk (Kd.V_elder' (vT_ HO_448001.out) (Kd.R_base ho1) hb); replace BK447 := kB_ BK447 hb; replace BK448 := kB_ BK448 hb; replace BK449 := kB_ BK449 hb; replace BK452 := kB_ BK452 hb; replace HB := hB_ hb; (try clear hb); (try clear ho0); (try clear ho1); obtain ⟨Ao37, co37, eo37⟩ := Kd.V_slice HO455.out; subst eo37; obtain ⟨hcz38_0, hcz38_1, hfz38_0, hfz38_1⟩ := b2_ BK447.out; obtain ⟨Ao39, co39, eo39⟩ := Kd.R_slice HO458.out; subst eo39))
              go_roundg k2
              case measure => have := HJ4.out; have := HK2.out; omega
              case rel => exact ⟨(IntKind.u64.wrap (Int.tdiv x3_2 256)), (wrap64 (x11_2 + 1)), (t453), (t456), (.slice Ao37 t453.length co37), (.slice Ao39 t456.length co39), r1_, r1_, H', ⟨by have := HJ4.out; have := HK2.out; omega⟩, ⟨vF_ HO455.out⟩, ⟨Kd.V_mono (Kd.R_V (by (with_reducible repeat (fail)); exact Kd.R_far (p := ⟨gb447, 1, none⟩) (Kd.R_far (p := ⟨gb447, 0, none⟩) (Kd.R_types (Kd.R_types (Kd.R_types (Kd.R_types (Kd.R_types HO458.out BK447.out (by decide)) BK448.out (by decide)) BK449.out (by decide)) BK452.out (by decide)) BK447.out (by decide)) (fun _ hk => by exact hk.2) (.slice Ao37 t453.length co37)) (fun _ hk => by exact hk.2) (.slice Ao39 t456.length co39))) (fun k_ hk => by exact ⟨.inr hk.1.1.1.1.1.1, ⟨hk.1.1.1.1.2, ⟨hk.1.1.1.2, ⟨hk.1.1.2, hk.1.2⟩⟩⟩⟩)⟩, ⟨kP_ BK447.out⟩, ⟨bfT_ BK448.out⟩, ⟨bfT_ BK449.out⟩, ⟨bfT_ BK452.out⟩, ⟨beT_⟩⟩
            rw [if_neg c28] at H
            have c28b0 : decide (x11_2 < a2) = false := decide_eq_false c28
            clear c28
            simp only [Option.some.injEq, Prod.mk.injEq] at H
            obtain ⟨rfl, rfl, rfl, rfl⟩ := H
            have hnb40 := NB447_448.out
            have hnc40 := NB448_447.out
            have hnb41 := NB447_449.out
            have hnc41 := NB449_447.out
            have hnb42 := NB447_452.out
            have hnc42 := NB452_447.out
            obtain ⟨hcz43_0, hcz43_1, hfz43_0, hfz43_1⟩ := b2_ BK447.out
            obtain ⟨Ao44, co44, eo44⟩ := Kd.V_slice HO_448000.out
            subst eo44
            have hnb45 := NB448_449.out
            have hnc45 := NB449_448.out
            have hnb46 := NB448_452.out
            have hnc46 := NB452_448.out
            obtain ⟨hcz47_0, hcz47_1, hfz47_0, hfz47_1⟩ := b2_ BK448.out
            obtain ⟨Ao48, co48, eo48⟩ := Kd.V_slice HO_448001.out
            subst eo48
            have hnb49 := NB449_452.out
            have hnc49 := NB452_449.out
            obtain ⟨hcz50_0, hcz50_1, hfz50_0, hfz50_1⟩ := b2_ BK449.out
            go_wp2
            refine bodyPost_ret (results_cc rfl _ _ gb448 gb449 25 34 #[.slice Ao44 x448000_2.length co44, .slice Ao48 x448001_2.length co48] #[.int .i64 0, .int .u64 0] (0, 0) (0, 0) _ _ rfl (kP_ BK448.out) Try.underlying25 rfl (by kernel_rfl) rfl (kP_ BK449.out) Try.underlying34 rfl (by kernel_rfl)) rfl ?_
            exact ⟨_, _, r3_, (vF_ HO_448000.out), (vF_ HO_448001.out), beT_⟩
      rw [if_neg c18] at H
      have c18b0 : (t450 == 0) = false := beq_eq_false_iff_ne.mpr c18
      have c18b1 : (t450 != 0) = true := bne_iff_ne.mpr c18
      simp only [Option.some.injEq, Prod.mk.injEq] at H
      obtain ⟨rfl, rfl, rfl, rfl⟩ := H
      have hnb51 := NB447_448.out
      have hnc51 := NB448_447.out
      have hnb52 := NB447_449.out
      have hnc52 := NB449_447.out
      obtain ⟨hcz53_0, hcz53_1, hfz53_0, hfz53_1⟩ := b2_ BK447.out
      try go_wp2_with (first | ((with_reducible refine gate_callee (f := 108) rfl ?_); refine gL_ (some 23) Try.func108 #[.agg #[.slice A0_0 l0_0.length c0_0, .slice A0_1 l0_1.length c0_1], .int .u64 a1, .int .i64 a2, .int .i64 2] ?_; (with_reducible refine (ferryref03_ask.calls kj4 _ _ l0_0 _ _ l0_1 a1 a2 2 t450 t451 _ ?side1 ?side2 ?side3 ?side4 A17.out).mono ?_); (case side1 => exact cT_ (Kd.V_reads' HO_448000.out).2.2); (case side2 => exact (Kd.V_reads' HO_448000.out).2.1); (case side3 => exact cT_ (Kd.V_reads' HO_448001.out).2.2); (case side4 => exact (Kd.V_reads' HO_448001.out).2.1); rintro e w54 ⟨rfl, hb⟩; refine ⟨_, rfl, ?_⟩; replace HO_448000 := vB_ HO_448000.out hb; replace HO_448001 := vB_ HO_448001.out hb; replace BK447 := kB_ BK447 hb; replace BK448 := kB_ BK448 hb; replace BK449 := kB_ BK449 hb; replace HB := hB_ hb; (try clear hb)) | ((with_reducible refine gate_dst (N := 10) rfl ?_); refine bE_ 10 #[.int .i64 0, .int .u64 0] 34 ?_; intro gb452 hg w55 hbox hb; have BK452 := Aside0.mk hbox; have GW452 := geT_ w.heap.size hg; have GE452 := geT_ w.heap.size hg; have NB447_452 := nlT_ BK447.out hg; have NB452_447 := ngT_ BK447.out hg; have NB448_452 := nlT_ BK448.out hg; have NB452_448 := ngT_ BK448.out hg; have NB449_452 := nlT_ BK449.out hg; have NB452_449 := ngT_ BK449.out hg; replace HO_448000 := vE_ HO_448000.out hg hb; replace HO_448001 := vE_ HO_448001.out hg hb; replace BK447 := kB_ BK447 hb; replace BK448 := kB_ BK448 hb; replace BK449 := kB_ BK449 hb; replace HB := hB_ hb; clear hb hbox hg; have hnb56 := NB452_447.out; have hnc56 := NB447_452.out; have hnb57 := NB452_448.out; have hnc57 := NB448_452.out; have hnb58 := NB452_449.out; have hnc58 := NB449_452.out; obtain ⟨hcz59_0, hcz59_1, hfz59_0, hfz59_1⟩ := b2_ BK452.out))
      have n0_ : Aside0 (Kd.V k83 83 ((w55.setCell ⟨gb452, 0, none⟩ (.int .i64 t450)).setCell ⟨gb452, 1, none⟩ (.int .u64 t451)) w.heap.size (fun k_ => ((P0_0_ k_ ∨ P0_1_ k_) ∨ w.heap.size ≤ k_) ∧ k_ ≠ gb447 ∧ k_ ≠ gb448 ∧ k_ ≠ gb449 ∧ k_ ≠ gb452) (.slice A0_0 l0_0.length c0_0) l0_0) := ⟨vF_ HO_448000.out⟩
      have n1_ : Aside0 (Kd.V k88 88 ((w55.setCell ⟨gb452, 0, none⟩ (.int .i64 t450)).setCell ⟨gb452, 1, none⟩ (.int .u64 t451)) w.heap.size (fun k_ => ((P0_0_ k_ ∨ P0_1_ k_) ∨ w.heap.size ≤ k_) ∧ k_ ≠ gb447 ∧ k_ ≠ gb448 ∧ k_ ≠ gb449 ∧ k_ ≠ gb452) (.slice A0_1 l0_1.length c0_1) l0_1) := ⟨vF_ HO_448001.out⟩
      have n2_ : Aside0 (((w55.setCell ⟨gb452, 0, none⟩ (.int .i64 t450)).setCell ⟨gb452, 1, none⟩ (.int .u64 t451)).heap[gb447]? = some (.cells #[.slice A0_0 l0_0.length c0_0, .slice A0_1 l0_1.length c0_1] 25 (0, 0))) := ⟨bfT_ BK447.out⟩
      have n3_ : Aside0 (((w55.setCell ⟨gb452, 0, none⟩ (.int .i64 t450)).setCell ⟨gb452, 1, none⟩ (.int .u64 t451)).heap[gb448]? = some (.cells #[.slice none 0 0, .slice none 0 0] 25 (0, 0))) := ⟨bfT_ BK448.out⟩
      have n4_ : Aside0 (((w55.setCell ⟨gb452, 0, none⟩ (.int .i64 t450)).setCell ⟨gb452, 1, none⟩ (.int .u64 t451)).heap[gb449]? = some (.cells #[.int .i64 0, .int .u64 0] 34 (0, 0))) := ⟨bfT_ BK449.out⟩
      have n5_ : Aside0 (((w55.setCell ⟨gb452, 0, none⟩ (.int .i64 t450)).setCell ⟨gb452, 1, none⟩ (.int .u64 t451)).heap[gb452]? = some (.cells #[.int .i64 t450, .int .u64 t451] 34 (0, 0))) := ⟨kP_ BK452.out⟩
      have n6_ : Aside0 (Below w.heap.size w ((w55.setCell ⟨gb452, 0, none⟩ (.int .i64 t450)).setCell ⟨gb452, 1, none⟩ (.int .u64 t451))) := ⟨beT_⟩
      (try clear HO_448000)
      (try clear HO_448001)
      (try clear BK447)
      (try clear BK448)
      (try clear BK449)
      (try clear BK452)
      (try clear HB)
      generalize ((w55.setCell ⟨gb452, 0, none⟩ (.int .i64 t450)).setCell ⟨gb452, 1, none⟩ (.int .u64 t451)) = w60 at n0_ n1_ n2_ n3_ n4_ n5_ n6_ ⊢
      have HO_448000 := n0_
      have HO_448001 := n1_
      have BK447 := n2_
      have BK448 := n3_
      have BK449 := n4_
      have BK452 := n5_
      have HB := n6_
      clear n0_ n1_ n2_ n3_ n4_ n5_ n6_
      replace HO_448000 := Aside0.mk (Kd.V_drew HO_448000.out)
      replace HO_448001 := Aside0.mk (Kd.V_drew HO_448001.out)
      replace BK447 := Aside0.mk (blk_drew BK447.out)
      replace BK448 := Aside0.mk (blk_drew BK448.out)
      replace BK449 := Aside0.mk (blk_drew BK449.out)
      replace BK452 := Aside0.mk (blk_drew BK452.out)
      replace HB := Aside0.mk (below_drew1 HB.out)
      refine start_ (n := 4) (S := fun w' => w'.cell? ⟨gb447, 0, none⟩ = some (.slice A0_0 l0_0.length c0_0) ∧ w'.cell? ⟨gb447, 1, none⟩ = some (.slice A0_1 l0_1.length c0_1) ∧ w'.cell? ⟨gb452, 0, none⟩ = some (.int .i64 t450) ∧ w'.cell? ⟨gb452, 1, none⟩ = some (.int .u64 t451)) (ds := []) (mb_ 4 0) (by kernel_rfl) rfl rfl ⟨(blk_cell BK447.out 0).trans rfl, (blk_cell BK447.out 1).trans rfl, (blk_cell BK452.out 0).trans rfl, (blk_cell BK452.out 1).trans rfl⟩ (fun hHeld => ?_)
      generalize w60.drew = w61 at HO_448000 HO_448001 BK447 BK448 BK449 BK452 HB hHeld ⊢
      refine take_ (i := 0) (N := some 27) (v := ?_) (a' := ?_) (mb_ 4 1) rfl rfl (by kernel_rfl) (fun _ _ _ h => h) (Or.inl ⟨by rfl, ?_⟩) hHeld ?_ ?_
      rotate_left
      · rintro w' ⟨s0, s1, s2, s3⟩
        go_simp
        with_reducible rfl
      rotate_left
      · simp only [Act.put, List.setIfInBounds_toArray, List.set_cons_zero, List.set_cons_succ, i64_w, i32_w]
        rfl
      refine take_ (i := 1) (N := some 28) (v := ?_) (a' := ?_) (mb_ 4 3) rfl rfl (by kernel_rfl) (fun _ _ _ h => h) (Or.inl ⟨by rfl, ?_⟩) hHeld ?_ ?_
      rotate_left
      · rintro w' ⟨s0, s1, s2, s3⟩
        go_simp
        with_reducible rfl
      rotate_left
      · simp only [Act.put, List.setIfInBounds_toArray, List.set_cons_zero, List.set_cons_succ, i64_w, i32_w]
        rfl
      refine one_ (i := 2) (N := none) (mb_ 4 7) rfl rfl (by kernel_rfl) (by decide) (fun K hK => ?_)
      have hs62 : w61.cell? ⟨gb448, 0, none⟩ = some (.slice none 0 0) := (blk_cell BK448.out 0).trans rfl
      have hfs62 := blk_frozen BK448.out 0
      have hns62_0 := NB447_448.out
      have hns62_2 := NB449_448.out
      have hns62_3 := NB452_448.out
      have hms62_0 := NB448_447.out
      have hms62_2 := NB448_449.out
      have hms62_3 := NB448_452.out
      have hs63 : w61.cell? ⟨gb448, 1, none⟩ = some (.slice none 0 0) := (blk_cell BK448.out 1).trans rfl
      have hfs63 := blk_frozen BK448.out 1
      have hns63_0 := NB447_448.out
      have hns63_2 := NB449_448.out
      have hns63_3 := NB452_448.out
      have hms63_0 := NB448_447.out
      have hms63_2 := NB448_449.out
      have hms63_3 := NB448_452.out
      refine skip_ (w1 := ?_) (by rfl) rfl ?_ ?_
      rotate_left
      · go_simp
        rfl
      refine hK.out _ _ ⟨((cell_far (p := ⟨gb448, _, none⟩) NB447_448.out _).trans (((cell_far (p := ⟨gb448, _, none⟩) NB447_448.out _).trans (hHeld.1)))), ((cell_far (p := ⟨gb448, _, none⟩) NB447_448.out _).trans (((cell_far (p := ⟨gb448, _, none⟩) NB447_448.out _).trans (hHeld.2.1)))), ((cell_far (p := ⟨gb448, _, none⟩) NB452_448.out _).trans (((cell_far (p := ⟨gb448, _, none⟩) NB452_448.out _).trans (hHeld.2.2.1)))), ((cell_far (p := ⟨gb448, _, none⟩) NB452_448.out _).trans (((cell_far (p := ⟨gb448, _, none⟩) NB452_448.out _).trans (hHeld.2.2.2))))⟩ (fun hHeld => ?_)
      clear hK K
      refine one_ (i := 3) (N := none) (mb_ 4 15) rfl rfl (by kernel_rfl) (by decide) (fun K hK => ?_)
      have hs64 : w61.cell? ⟨gb449, 0, none⟩ = some (.int .i64 0) := (blk_cell BK449.out 0).trans rfl
      have hfs64 := blk_frozen BK449.out 0
      have hns64_0 := NB447_449.out
      have hns64_1 := NB448_449.out
      have hns64_3 := NB452_449.out
      have hms64_0 := NB449_447.out
      have hms64_1 := NB449_448.out
      have hms64_3 := NB449_452.out
      have hs65 : w61.cell? ⟨gb449, 1, none⟩ = some (.int .u64 0) := (blk_cell BK449.out 1).trans rfl
      have hfs65 := blk_frozen BK449.out 1
      have hns65_0 := NB447_449.out
      have hns65_1 := NB448_449.out
      have hns65_3 := NB452_449.out
      have hms65_0 := NB449_447.out
      have hms65_1 := NB449_448.out
      have hms65_3 := NB449_452.out
      refine skip_ (w1 := ?_) (by rfl) rfl ?_ ?_
      rotate_left
      · go_simp
        rfl
      refine hK.out _ _ ⟨((cell_far (p := ⟨gb449, _, none⟩) NB447_449.out _).trans (((cell_far (p := ⟨gb449, _, none⟩) NB447_449.out _).trans (hHeld.1)))), ((cell_far (p := ⟨gb449, _, none⟩) NB447_449.out _).trans (((cell_far (p := ⟨gb449, _, none⟩) NB447_449.out _).trans (hHeld.2.1)))), ((cell_far (p := ⟨gb449, _, none⟩) NB452_449.out _).trans (((cell_far (p := ⟨gb449, _, none⟩) NB452_449.out _).trans (hHeld.2.2.1)))), ((cell_far (p := ⟨gb449, _, none⟩) NB452_449.out _).trans (((cell_far (p := ⟨gb449, _, none⟩) NB452_449.out _).trans (hHeld.2.2.2))))⟩ (fun hHeld => ?_)
      clear hK K
      refine done_ (by kernel_rfl) ?_
      try go_wp2
      refine bodyPost_ret (results_cc rfl _ _ gb448 gb449 25 34 #[.slice A0_0 l0_0.length c0_0, .slice A0_1 l0_1.length c0_1] #[.int .i64 t450, .int .u64 t451] (0, 0) (0, 0) _ _ rfl (kP_ BK448.out) Try.underlying25 rfl (by kernel_rfl) rfl (kP_ BK449.out) Try.underlying34 rfl (by kernel_rfl)) rfl ?_
      exact ⟨_, _, r3_, (vF_ HO_448000.out), (vF_ HO_448001.out), beT_⟩

end Go.Proofs.Ytgkjdpdmmlalcaa.F
end
