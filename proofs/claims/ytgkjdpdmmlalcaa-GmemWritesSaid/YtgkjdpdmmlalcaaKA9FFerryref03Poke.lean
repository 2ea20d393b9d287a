import Derived.Test.YtgkjdpdmmlalcaaKZF0
import Derived.Test.YtgkjdpdmmlalcaaKA0
import Derived.Test.YtgkjdpdmmlalcaaKA5
section
namespace Go.Proofs.Ytgkjdpdmmlalcaa.F
open Go.RowKit Go.Proofs.YtgkjdpdmmlalcaaW.PrintWords Go.Proofs.YtgkjdpdmmlalcaaW.PrintLast Go.Proofs.YtgkjdpdmmlalcaaW.PrintMore
attribute [local go_sem] max2_int min2_int max_two min_two max_three min_three max_four min_four
attribute [local go_sem] cell_twice
set_option linter.unusedVariables false
set_option linter.unusedSimpArgs false

mutual
def ferryref03_poke.l0 : Nat → Int → Int → List (S88) → Bool → Int → List (S83) → List (S88) → Option ((List (S83)) × (List (S88)))
  | 0, _, _, _, _, _, _, _ => none
  | k + 1, x7, x9, x10, x11, x12, x428000, x428001 => if x12 < (x428001.length : Int) then (if x11 = true then (ferryref03_poke.j1 k x7 x9 x10 x11 x12 false x428000 x428001) else (if 0 ≤ x12 then (ferryref03_poke.j1 k x7 x9 x10 x11 x12 (decide (((rd_T88 x428001 x12).f0) ≥ x7)) x428000 x428001) else (none))) else (if x11 = true then (some (x428000, x10)) else (if x10.length < 8796093022208 then (some (x428000, (x10 ++ [(⟨x7, x9⟩ : S88)]))) else (none)))
def ferryref03_poke.j1 : Nat → Int → Int → List (S88) → Bool → Int → Bool → List (S83) → List (S88) → Option ((List (S83)) × (List (S88)))
  | 0, _, _, _, _, _, _, _, _ => none
  | k + 1, x7, x9, x10, x11, x12, x51, x428000, x428001 => if x51 = true then (if x10.length < 8796093022208 then ((some (x10 ++ [(⟨x7, x9⟩ : S88)] : List (S88))).bind fun y434 => (if 0 ≤ x12 then (if x12 < (x428001.length : Int) then (if ((rd_T88 x428001 x12).f0) = x7 then (ferryref03_poke.l0 k x7 x9 y434 true (wrap64 (x12 + 1)) x428000 x428001) else (if y434.length < 8796093022208 then (ferryref03_poke.l0 k x7 x9 (y434 ++ [(⟨(rd_T88 x428001 x12).f0, (rd_T88 x428001 x12).f1⟩ : S88)]) true (wrap64 (x12 + 1)) x428000 x428001) else (none))) else (none)) else (none))) else (none)) else (if 0 ≤ x12 then (if x12 < (x428001.length : Int) then (if ((rd_T88 x428001 x12).f0) = x7 then (ferryref03_poke.l0 k x7 x9 x10 x11 (wrap64 (x12 + 1)) x428000 x428001) else (if x10.length < 8796093022208 then (ferryref03_poke.l0 k x7 x9 (x10 ++ [(⟨(rd_T88 x428001 x12).f0, (rd_T88 x428001 x12).f1⟩ : S88)]) x11 (wrap64 (x12 + 1)) x428000 x428001) else (none))) else (none)) else (none))
end
def ferryref03_poke.f (k : Nat) (l0_0 : List (S83)) (l0_1 : List (S88)) (a1 : Int) (a2 : Int) : Option ((List (S83)) × (List (S88))) := (ferryref03_word.f k l0_0 l0_1 (IntKind.u64.wrap (a1 - (Int.tmod a1 8)))).bind fun t429 => (if 0 ≤ (IntKind.u64.wrap (8 * (Int.tmod a1 8))) then (ferryref03_poke.l0 k (IntKind.u64.wrap (a1 - (Int.tmod a1 8))) (Go.bits .or .u64 (Go.bits .andNot .u64 t429 (shl .u64 255 (IntKind.u64.wrap (8 * (Int.tmod a1 8))))) (shl .u64 (IntKind.u64.wrap (a2)) (IntKind.u64.wrap (8 * (Int.tmod a1 8))))) ([] : List (S88)) ((Go.bits .or .u64 (Go.bits .andNot .u64 t429 (shl .u64 255 (IntKind.u64.wrap (8 * (Int.tmod a1 8))))) (shl .u64 (IntKind.u64.wrap (a2)) (IntKind.u64.wrap (8 * (Int.tmod a1 8))))) == 0) 0 l0_0 l0_1) else (none))
set_option maxHeartbeats 8000000 in
set_option maxRecDepth 100000 in
theorem ferryref03_poke.calls (k : Nat) (P0_0_ : Nat → Prop) (A0_0 : Option Addr) (c0_0 : Nat) (l0_0 : List (S83)) (A0_1 : Option Addr) (c0_1 : Nat) (l0_1 : List (S88)) (a1 : Int) (a2 : Int) (r1 : List (S83)) (r2 : List (S88)) (w : World) (hs0_0 : Kd.V k83 83 w w.heap.size (fun k_ => P0_0_ k_) (.slice A0_0 l0_0.length c0_0) l0_0) (hr0_1 : Kd.C k88 w A0_1 l0_1.length l0_1) (hc0_1 : l0_1.length ≤ c0_1) (h : ferryref03_poke.f k l0_0 l0_1 a1 a2 = some (r1, r2)) :
    Calls Try.prog 109 #[.agg #[.slice A0_0 l0_0.length c0_0, .slice A0_1 l0_1.length c0_1], .int .u64 a1, .int .u8 a2] w fun e w' => ∃ v0_ v1_ : Value, e = .returned (.agg #[v0_, v1_]) ∧ Kd.V k83 83 w' w.heap.size (fun k_ => (P0_0_ k_ ∨ w.heap.size ≤ k_) ∧ some k_ ≠ (v1_ : Value).ownBlock) v0_ r1 ∧ Kd.R k88 88 w' w.heap.size (fun k_ => (w.heap.size ≤ k_)) v1_ r2 ∧ Below w.heap.size w w' := by
  have hu25 := Try.underlying25
  have hu88 := Try.underlying88
  have HO0_0 := Aside0.mk (show Kd.V k83 83 w w.heap.size (fun k_ => (P0_0_ k_ ∨ w.heap.size ≤ k_)) (.slice A0_0 l0_0.length c0_0) l0_0 from Kd.V_mono hs0_0 (fun k_ hk => .inl hk))
  have HR0_1 := Aside0.mk hr0_1
  have HC0_1 := Aside0.mk hc0_1
  clear hr0_1 hc0_1
  have HB := Aside0.mk (Below.refl w.heap.size w)
  have H : ((ferryref03_word.f k l0_0 l0_1 (IntKind.u64.wrap (a1 - (Int.tmod a1 8)))).bind fun t429 => (if 0 ≤ (IntKind.u64.wrap (8 * (Int.tmod a1 8))) then (ferryref03_poke.l0 k (IntKind.u64.wrap (a1 - (Int.tmod a1 8))) (Go.bits .or .u64 (Go.bits .andNot .u64 t429 (shl .u64 255 (IntKind.u64.wrap (8 * (Int.tmod a1 8))))) (shl .u64 (IntKind.u64.wrap (a2)) (IntKind.u64.wrap (8 * (Int.tmod a1 8))))) ([] : List (S88)) ((Go.bits .or .u64 (Go.bits .andNot .u64 t429 (shl .u64 255 (IntKind.u64.wrap (8 * (Int.tmod a1 8))))) (shl .u64 (IntKind.u64.wrap (a2)) (IntKind.u64.wrap (8 * (Int.tmod a1 8))))) == 0) 0 l0_0 l0_1) else (none))) = some (r1, r2) := h
  clear h
  replace H := Option.bind_eq_some_iff.mp H
  obtain ⟨t429, A40, H⟩ := H
  have A4 := Aside0.mk A40
  clear A40
  obtain ⟨ji5, hji5⟩ : ∃ j_ : Int, (IntKind.u64.wrap (8 * (Int.tmod a1 8))) = j_ := ⟨_, rfl⟩
  replace H : (if 0 ≤ (ji5) then (ferryref03_poke.l0 k (IntKind.u64.wrap (a1 - (Int.tmod a1 8))) (Go.bits .or .u64 (Go.bits .andNot .u64 t429 (shl .u64 255 (ji5))) (shl .u64 (IntKind.u64.wrap (a2)) (ji5))) ([] : List (S88)) ((Go.bits .or .u64 (Go.bits .andNot .u64 t429 (shl .u64 255 (ji5))) (shl .u64 (IntKind.u64.wrap (a2)) (ji5))) == 0) 0 l0_0 l0_1) else (none)) = some (r1, r2) := by (rw [hji5] at H; exact H)
  by_cases c6 : 0 ≤ (ji5)
  · rw [if_pos c6] at H
    have c6b0 := eq_true c6
    have c6b1 : decide (0 ≤ (ji5)) = true := decide_eq_true c6
    clear c6
    obtain ⟨ji7, hji7⟩ : ∃ j_ : Int, (shl .u64 255 (ji5)) = j_ := ⟨_, rfl⟩
    replace H : (ferryref03_poke.l0 k (IntKind.u64.wrap (a1 - (Int.tmod a1 8))) (Go.bits .or .u64 (Go.bits .andNot .u64 t429 (ji7)) (shl .u64 (IntKind.u64.wrap (a2)) (ji5))) ([] : List (S88)) ((Go.bits .or .u64 (Go.bits .andNot .u64 t429 (ji7)) (shl .u64 (IntKind.u64.wrap (a2)) (ji5))) == 0) 0 l0_0 l0_1) = some (r1, r2) := by (rw [hji7] at H; exact H)
    have hji7_ : (IntKind.u64.wrap (255 * 2 ^ min (ji5).toNat 64)) = ji7 := hji7
    have hji7z : (ji5) ≤ 64 → (IntKind.u64.wrap (255 * 2 ^ (ji5).toNat)) = ji7 := shl_small hji7
    have c8b0 := eq_true (dT_ : 0 ≤ (ji5))
    obtain ⟨ji9, hji9⟩ : ∃ j_ : Int, (shl .u64 (IntKind.u64.wrap (a2)) (ji5)) = j_ := ⟨_, rfl⟩
    replace H : (ferryref03_poke.l0 k (IntKind.u64.wrap (a1 - (Int.tmod a1 8))) (Go.bits .or .u64 (Go.bits .andNot .u64 t429 (ji7)) (ji9)) ([] : List (S88)) ((Go.bits .or .u64 (Go.bits .andNot .u64 t429 (ji7)) (ji9)) == 0) 0 l0_0 l0_1) = some (r1, r2) := by (rw [hji9] at H; exact H)
    have hji9_ : (IntKind.u64.wrap ((IntKind.u64.wrap (a2)) * 2 ^ min (ji5).toNat 64)) = ji9 := hji9
    have hji9z : (ji5) ≤ 64 → (IntKind.u64.wrap ((IntKind.u64.wrap (a2)) * 2 ^ (ji5).toNat)) = ji9 := shl_small hji9
    have H' := Aside0.mk H
    clear H
    go_enter Try.func109, Try.ntmps109
    go_wp2_with (first | ((with_reducible refine gate_dst (N := 3) rfl ?_); refine bE_ 3 #[.slice A0_0 l0_0.length c0_0, .slice A0_1 l0_1.length c0_1] 25 ?_; intro gb427 hg w10 hbox hb; have BK427 := Aside0.mk hbox; have GW427 := geT_ w.heap.size hg; have GE427 := geT_ w.heap.size hg; replace HO0_0 := vE_ HO0_0.out hg hb; replace HB := hB_ hb; clear hb hbox hg) | ((with_reducible refine gate_dst (N := 6) rfl ?_); refine bE_ 6 #[.slice none 0 0, .slice none 0 0] 25 ?_; intro gb428 hg w11 hbox hb; have BK428 := Aside0.mk hbox; have GW428 := geT_ w.heap.size hg; have GE428 := geT_ w.heap.size hg; have NB427_428 := nlT_ BK427.out hg; have NB428_427 := ngT_ BK427.out hg; replace HO0_0 := vE_ HO0_0.out hg hb; replace BK427 := kB_ BK427 hb; replace HB := hB_ hb; clear hb hbox hg; have hnb12 := NB427_428.out; have hnc12 := NB428_427.out; obtain ⟨hcz13_0, hcz13_1, hfz13_0, hfz13_1⟩ := b2_ BK427.out) | ((with_reducible refine gate_callee (f := 43) rfl ?_); refine gL_ (some 22) Try.func43 #[.agg #[.slice A0_0 l0_0.length c0_0, .slice A0_1 l0_1.length c0_1], .int .u64 (IntKind.u64.wrap (a1 - (Int.tmod a1 8)))] ?_; (with_reducible refine (ferryref03_word.calls k _ _ l0_0 _ _ l0_1 (IntKind.u64.wrap (a1 - (Int.tmod a1 8))) t429 _ ?side1 ?side2 ?side3 ?side4 A4.out).mono ?_); (case side1 => exact cT_ (Kd.V_reads' HO0_0.out).2.2); (case side2 => exact (Kd.V_reads' HO0_0.out).2.1); (case side3 => exact cT_ (Kd.C_below HR0_1.out HB.out)); (case side4 => exact HC0_1.out); rintro e w14 ⟨rfl, hb⟩; refine ⟨_, rfl, ?_⟩; replace HO0_0 := vB_ HO0_0.out hb; replace BK427 := kB_ BK427 hb; replace BK428 := kB_ BK428 hb; replace HB := hB_ hb; (try clear hb)))
    go_loopg [10, 11, 12] k (fun kq v10 v11 v12 w' => ∃ (x10_1 : List (S88)) (x11_1 : Bool) (x12_1 : Int), v11 = .bool x11_1 ∧ v12 = .int .i64 x12_1 ∧ Aside0 (ferryref03_poke.l0 kq (IntKind.u64.wrap (a1 - (Int.tmod a1 8))) (Go.bits .or .u64 (Go.bits .andNot .u64 t429 (ji7)) (ji9)) x10_1 x11_1 x12_1 l0_0 l0_1 = some (r1, r2)) ∧ Aside0 (kq ≤ k) ∧ Aside0 (Kd.R k88 88 w' w.heap.size (fun k_ => (w.heap.size ≤ k_)) v10 x10_1) ∧ Aside0 (Kd.V k83 83 w' w.heap.size (fun k_ => (P0_0_ k_ ∨ w.heap.size ≤ k_) ∧ some k_ ≠ (v10 : Value).ownBlock ∧ k_ ≠ gb427 ∧ k_ ≠ gb428) (.slice A0_0 l0_0.length c0_0) l0_0) ∧ Aside0 (w'.heap[gb427]? = some (.cells #[(.slice A0_0 l0_0.length c0_0), (.slice A0_1 l0_1.length c0_1)] 25 (0, 0))) ∧ Aside0 (w'.heap[gb428]? = some (.cells #[(.slice none 0 0), (.slice none 0 0)] 25 (0, 0))) ∧ Aside0 (Below w.heap.size w w'))
    case atStart => exact ⟨(([] : List (S88))), (((Go.bits .or .u64 (Go.bits .andNot .u64 t429 (ji7)) (ji9)) == 0)), (0), (by rfl), r1_, H', ⟨Nat.le_refl _⟩, ⟨by exact Kd.R_nil _ _ _ _ _⟩, ⟨vM_ HO0_0.out⟩, ⟨bT_ BK427.out⟩, ⟨bT_ BK428.out⟩, ⟨beT_⟩⟩
    case round =>
      clear H'
      try clear c6b0
      try clear c6b1
      try clear c8b0
      try clear hcz13_0
      try clear hcz13_1
      try clear hfz13_0
      try clear hfz13_1
      obtain ⟨x10_1, x11_1, x12_1, rfl, rfl, HA, HK1, HO_10, HO_428000, BK427, BK428, HB⟩ := hrel
      cases gk with
      | zero => exact absurd HA.out (by simp [ferryref03_poke.l0])
      | succ k1 =>
        have H := HA.out
        clear HA
        simp only [ferryref03_poke.l0] at H
        by_cases c15 : x12_1 < (l0_1.length : Int)
        · rw [if_pos c15] at H
          have c15b0 : decide (x12_1 < (l0_1.length : Int)) = true := decide_eq_true c15
          clear c15
          have HC16 := Aside0.mk H
          clear H
          have hnb17 := NB427_428.out
          have hnc17 := NB428_427.out
          obtain ⟨hcz18_0, hcz18_1, hfz18_0, hfz18_1⟩ := b2_ BK427.out
          go_upto_region 9 with (fail)
          go_cut [51] (fun v51 wc => ∃ (kq : Nat) (x51_15 : Bool), v51 = .bool x51_15 ∧ Aside0 (ferryref03_poke.j1 kq (IntKind.u64.wrap (a1 - (Int.tmod a1 8))) (Go.bits .or .u64 (Go.bits .andNot .u64 t429 (ji7)) (ji9)) x10_1 x11_1 x12_1 x51_15 l0_0 l0_1 = some (r1, r2)) ∧ Aside0 (kq ≤ k1) ∧ Aside0 (Kd.R k88 88 wc w.heap.size (fun k_ => (w.heap.size ≤ k_)) u10 x10_1) ∧ Aside0 (Kd.V k83 83 wc w.heap.size (fun k_ => (P0_0_ k_ ∨ w.heap.size ≤ k_) ∧ some k_ ≠ (u10 : Value).ownBlock ∧ k_ ≠ gb427 ∧ k_ ≠ gb428) (.slice A0_0 l0_0.length c0_0) l0_0) ∧ Aside0 (wc.heap[gb427]? = some (.cells #[(.slice A0_0 l0_0.length c0_0), (.slice A0_1 l0_1.length c0_1)] 25 (0, 0))) ∧ Aside0 (wc.heap[gb428]? = some (.cells #[(.slice none 0 0), (.slice none 0 0)] 25 (0, 0))) ∧ Aside0 (Below w.heap.size w wc))
          case first =>
            have H := HC16.out
            clear HC16
            by_cases c19 : x11_1 = true
            · subst c19
              replace H := hP_ H
              have H' := Aside0.mk H
              clear H
              go_wp2
              go_meet
              case rel => exact ⟨_, (false), r1_, H', ⟨by have := HK1.out; omega⟩, ⟨rT_ HO_10.out⟩, ⟨vT_ HO_428000.out⟩, ⟨bT_ BK427.out⟩, ⟨bT_ BK428.out⟩, ⟨beT_⟩⟩
            replace c19 := Bool.eq_false_iff.mpr c19
            subst c19
            replace H := hN_ H
            by_cases c20 : 0 ≤ x12_1
            · rw [if_pos c20] at H
              have c20b0 : decide (0 ≤ x12_1) = true := decide_eq_true c20
              clear c20
              (skip)
              have H' := Aside0.mk H
              clear H
              have hnb21 := NB427_428.out
              have hnc21 := NB428_427.out
              obtain ⟨hcz22_0, hcz22_1, hfz22_0, hfz22_1⟩ := b2_ BK427.out
              have p433 : 0 ≤ (x12_1 : Int) := dT_
              have q433 : x12_1 < (l0_1.length : Int) := dT_
              obtain ⟨ad433, e433, hx433_0, hx433_1⟩ := at_T88 HR0_1.out x12_1 p433 q433
              cases e433
              replace hx433_0 := hX_ hx433_0
              replace hx433_1 := hX_ hx433_1
              replace p433 := eq_true p433
              replace q433 := eq_true q433
              go_wp2
              go_meet
              case rel => exact ⟨_, (decide (((rd_T88 l0_1 x12_1).f0) ≥ (IntKind.u64.wrap (a1 - (Int.tmod a1 8))))), r1_, H', ⟨by have := HK1.out; omega⟩, ⟨rT_ HO_10.out⟩, ⟨vT_ HO_428000.out⟩, ⟨bT_ BK427.out⟩, ⟨bT_ BK428.out⟩, ⟨beT_⟩⟩
            rw [if_neg c20] at H
            exact absurd H (by simp)
          case rest =>
            clear HC16
            try clear c15b0
            try clear hcz18_0
            try clear hcz18_1
            try clear hfz18_0
            try clear hfz18_1
            obtain ⟨kq, x51_15, rfl, HA, HJ15, HO_10, HO_428000, BK427, BK428, HB⟩ := hcut
            cases kq with
            | zero => exact absurd HA.out (by simp [ferryref03_poke.j1])
            | succ kj15 =>
              have H := HA.out
              clear HA
              simp only [ferryref03_poke.j1] at H
              by_cases c23 : x51_15 = true
              · subst c23
                replace H := hP_ H
                by_cases c24 : x10_1.length < 8796093022208
                · rw [if_pos c24] at H
                  have LMc24 := Aside0.mk c24
                  clear c24
                  obtain ⟨y434, hy434⟩ : ∃ y_ : List (S88), y_ = (x10_1 ++ [(⟨(IntKind.u64.wrap (a1 - (Int.tmod a1 8))), (Go.bits .or .u64 (Go.bits .andNot .u64 t429 (ji7)) (ji9))⟩ : S88)]) := ⟨_, rfl⟩
                  replace H : (if 0 ≤ x12_1 then (if x12_1 < (l0_1.length : Int) then (if ((rd_T88 l0_1 x12_1).f0) = (IntKind.u64.wrap (a1 - (Int.tmod a1 8))) then (ferryref03_poke.l0 kj15 (IntKind.u64.wrap (a1 - (Int.tmod a1 8))) (Go.bits .or .u64 (Go.bits .andNot .u64 t429 (ji7)) (ji9)) y434 true (wrap64 (x12_1 + 1)) l0_0 l0_1) else (if y434.length < 8796093022208 then (ferryref03_poke.l0 kj15 (IntKind.u64.wrap (a1 - (Int.tmod a1 8))) (Go.bits .or .u64 (Go.bits .andNot .u64 t429 (ji7)) (ji9)) (y434 ++ [(⟨(rd_T88 l0_1 x12_1).f0, (rd_T88 l0_1 x12_1).f1⟩ : S88)]) true (wrap64 (x12_1 + 1)) l0_0 l0_1) else (none))) else (none)) else (none)) = some (r1, r2) := by (have H2_ := (Option.bind_some _ _).symm.trans H; rw [hy434]; with_reducible exact H2_)
                  have Ny434 := Aside0.mk hy434
                  clear hy434
                  by_cases c25 : 0 ≤ x12_1
                  · rw [if_pos c25] at H
                    have c25b0 : decide (0 ≤ x12_1) = true := decide_eq_true c25
                    clear c25
                    by_cases c26 : x12_1 < (l0_1.length : Int)
                    · rw [if_pos c26] at H
                      have c26b0 : decide (x12_1 < (l0_1.length : Int)) = true := decide_eq_true c26
                      clear c26
                      by_cases c27 : ((rd_T88 l0_1 x12_1).f0) = (IntKind.u64.wrap (a1 - (Int.tmod a1 8)))
                      · rw [if_pos c27] at H
                        have c27b0 : (((rd_T88 l0_1 x12_1).f0) == (IntKind.u64.wrap (a1 - (Int.tmod a1 8)))) = true := beq_iff_eq.mpr c27
                        have c27b1 : (((rd_T88 l0_1 x12_1).f0) != (IntKind.u64.wrap (a1 - (Int.tmod a1 8)))) = false := bne_eq_false_iff_eq.mpr c27
                        clear c27
                        have H' := Aside0.mk H
                        clear H
                        go_wp2_with (((with_reducible refine gate_builtin (b := .append) (xs := #[.tmp 52, .tmp 56]) rfl ?_); at_builtin; refine Kd.R_append k88 (w0 := w) w.heap.size rfl (.tmp 52) (.tmp 56) 23 88 (.agg #[(.int .u64 0), (.int .u64 0)]) 16 rfl Try.underlying23 info88 rfl (by decide) (by omega) u10 x10_1 (⟨(IntKind.u64.wrap (a1 - (Int.tmod a1 8))), (Go.bits .or .u64 (Go.bits .andNot .u64 t429 (ji7)) (ji9))⟩ : S88) [.int .u64 (IntKind.u64.wrap (a1 - (Int.tmod a1 8))), .int .u64 (Go.bits .or .u64 (Go.bits .andNot .u64 t429 (ji7)) (ji9))] (fun k_ => (w.heap.size ≤ k_)) (fun _ => False) rfl rfl ?aP (fun _ hk => hk.elim) ?aF ?aO ?aB ?aS ?aL ?_; (case aP => exact k88_mkM _ _ _ (⟨(IntKind.u64.wrap (a1 - (Int.tmod a1 8))), (Go.bits .or .u64 (Go.bits .andNot .u64 t429 (ji7)) (ji9))⟩ : S88)); (case aB => exact beT_); (case aF => exact (fun k_ hk => (Nat.le_trans (below_size beT_) hk))); (case aO => exact (rT_ HO_10.out)); (case aS => exact (below_size beT_)); (case aL => have := LMc24.out; omega); intro v435 w28 ho hb hg hat; rw [← Ny434.out] at ho; have HO436 := Aside0.mk ho; replace HO_428000 := Aside0.mk (Kd.V_afterv (ok := (fun k_ => (P0_0_ k_ ∨ w.heap.size ≤ k_) ∧ k_ ≠ gb427 ∧ k_ ≠ gb428)) (vM_ HO_428000.out) hg hat); replace BK427 := kG_ BK427.out hg (Kd.R_ne HO_10.out BK427.out (by decide)); replace BK428 := kG_ BK428.out hg (Kd.R_ne HO_10.out BK428.out (by decide)); replace HB := Aside0.mk hb; clear HO_10; clear ho hb hg hat; have hnb29 := NB427_428.out; have hnc29 := NB428_427.out; obtain ⟨hcz30_0, hcz30_1, hfz30_0, hfz30_1⟩ := b2_ BK427.out; have p437 : 0 ≤ (x12_1 : Int) := dT_; have q437 : x12_1 < (l0_1.length : Int) := dT_; obtain ⟨ad437, e437, hx437_0, hx437_1⟩ := at_T88 HR0_1.out x12_1 p437 q437; cases e437; replace hx437_0 := hX_ hx437_0; replace hx437_1 := hX_ hx437_1; replace p437 := eq_true p437; replace q437 := eq_true q437))
                        go_roundg kj15
                        case measure => have := HK1.out; have := HJ15.out; omega
                        case rel => exact ⟨(y434), (true), (wrap64 (x12_1 + 1)), r1_, r1_, H', ⟨by have := HK1.out; have := HJ15.out; omega⟩, ⟨rT_ HO436.out⟩, ⟨vM_ HO_428000.out⟩, ⟨bT_ BK427.out⟩, ⟨bT_ BK428.out⟩, ⟨beT_⟩⟩
                      rw [if_neg c27] at H
                      have c27b0 : (((rd_T88 l0_1 x12_1).f0) == (IntKind.u64.wrap (a1 - (Int.tmod a1 8)))) = false := beq_eq_false_iff_ne.mpr c27
                      have c27b1 : (((rd_T88 l0_1 x12_1).f0) != (IntKind.u64.wrap (a1 - (Int.tmod a1 8)))) = true := bne_iff_ne.mpr c27
                      by_cases c31 : y434.length < 8796093022208
                      · rw [if_pos c31] at H
                        have LMc31 := Aside0.mk c31
                        clear c31
                        obtain ⟨y439, hy439⟩ : ∃ y_ : List (S88), y_ = (y434 ++ [(⟨(rd_T88 l0_1 x12_1).f0, (rd_T88 l0_1 x12_1).f1⟩ : S88)]) := ⟨_, rfl⟩
                        replace H : (ferryref03_poke.l0 kj15 (IntKind.u64.wrap (a1 - (Int.tmod a1 8))) (Go.bits .or .u64 (Go.bits .andNot .u64 t429 (ji7)) (ji9)) y439 true (wrap64 (x12_1 + 1)) l0_0 l0_1) = some (r1, r2) := by (rw [hy439]; with_reducible exact H)
                        have Ny439 := Aside0.mk hy439
                        clear hy439
                        have H' := Aside0.mk H
                        clear H
                        go_wp2_with (first | ((with_reducible refine gate_builtin (b := .append) (xs := #[.tmp 52, .tmp 56]) rfl ?_); at_builtin; refine Kd.R_append k88 (w0 := w) w.heap.size rfl (.tmp 52) (.tmp 56) 23 88 (.agg #[(.int .u64 0), (.int .u64 0)]) 16 rfl Try.underlying23 info88 rfl (by decide) (by omega) u10 x10_1 (⟨(IntKind.u64.wrap (a1 - (Int.tmod a1 8))), (Go.bits .or .u64 (Go.bits .andNot .u64 t429 (ji7)) (ji9))⟩ : S88) [.int .u64 (IntKind.u64.wrap (a1 - (Int.tmod a1 8))), .int .u64 (Go.bits .or .u64 (Go.bits .andNot .u64 t429 (ji7)) (ji9))] (fun k_ => (w.heap.size ≤ k_)) (fun _ => False) rfl rfl ?aP (fun _ hk => hk.elim) ?aF ?aO ?aB ?aS ?aL ?_; (case aP => exact k88_mkM _ _ _ (⟨(IntKind.u64.wrap (a1 - (Int.tmod a1 8))), (Go.bits .or .u64 (Go.bits .andNot .u64 t429 (ji7)) (ji9))⟩ : S88)); (case aB => exact beT_); (case aF => exact (fun k_ hk => (Nat.le_trans (below_size beT_) hk))); (case aO => exact (rT_ HO_10.out)); (case aS => exact (below_size beT_)); (case aL => have := LMc24.out; omega); intro v435 w32 ho hb hg hat; rw [← Ny434.out] at ho; have HO436 := Aside0.mk ho; replace HO_428000 := Aside0.mk (Kd.V_afterv (ok := (fun k_ => (P0_0_ k_ ∨ w.heap.size ≤ k_) ∧ k_ ≠ gb427 ∧ k_ ≠ gb428)) (vM_ HO_428000.out) hg hat); replace BK427 := kG_ BK427.out hg (Kd.R_ne HO_10.out BK427.out (by decide)); replace BK428 := kG_ BK428.out hg (Kd.R_ne HO_10.out BK428.out (by decide)); replace HB := Aside0.mk hb; clear HO_10; clear ho hb hg hat; have hnb33 := NB427_428.out; have hnc33 := NB428_427.out; obtain ⟨hcz34_0, hcz34_1, hfz34_0, hfz34_1⟩ := b2_ BK427.out; have p437 : 0 ≤ (x12_1 : Int) := dT_; have q437 : x12_1 < (l0_1.length : Int) := dT_; obtain ⟨ad437, e437, hx437_0, hx437_1⟩ := at_T88 HR0_1.out x12_1 p437 q437; cases e437; replace hx437_0 := hX_ hx437_0; replace hx437_1 := hX_ hx437_1; replace p437 := eq_true p437; replace q437 := eq_true q437; have p438 : 0 ≤ (x12_1 : Int) := dT_; have q438 : x12_1 < (l0_1.length : Int) := dT_; obtain ⟨ad438, e438, hx438_0, hx438_1⟩ := at_T88 HR0_1.out x12_1 p438 q438; obtain rfl : ad437 = ad438 := (by injection e438); replace hx438_0 := hX_ hx438_0; replace hx438_1 := hX_ hx438_1; replace p438 := eq_true p438; replace q438 := eq_true q438) | ((with_reducible refine gate_builtin (b := .append) (xs := #[.tmp 66, .tmp 72]) rfl ?_); at_builtin; refine Kd.R_append k88 (w0 := w) w.heap.size rfl (.tmp 66) (.tmp 72) 23 88 (.agg #[(.int .u64 0), (.int .u64 0)]) 16 rfl Try.underlying23 info88 rfl (by decide) (by omega) v435 y434 (⟨(rd_T88 l0_1 x12_1).f0, (rd_T88 l0_1 x12_1).f1⟩ : S88) [.int .u64 ((rd_T88 l0_1 x12_1).f0), .int .u64 ((rd_T88 l0_1 x12_1).f1)] (fun k_ => (w.heap.size ≤ k_)) (fun _ => False) rfl rfl ?aP (fun _ hk => hk.elim) ?aF ?aO ?aB ?aS ?aL ?_; (case aP => exact k88_mkM _ _ _ (⟨(rd_T88 l0_1 x12_1).f0, (rd_T88 l0_1 x12_1).f1⟩ : S88)); (case aB => exact beT_); (case aF => exact (fun k_ hk => (Nat.le_trans (below_size beT_) hk))); (case aO => exact (rT_ HO436.out)); (case aS => exact (below_size beT_)); (case aL => have := LMc31.out; omega); intro v440 w35 ho hb hg hat; rw [← Ny439.out] at ho; have HO441 := Aside0.mk ho; replace HO_428000 := Aside0.mk (Kd.V_afterv (ok := (fun k_ => (P0_0_ k_ ∨ w.heap.size ≤ k_) ∧ k_ ≠ gb427 ∧ k_ ≠ gb428)) (vT_ HO_428000.out) hg hat); replace BK427 := kG_ BK427.out hg (Kd.R_ne HO436.out BK427.out (by decide)); replace BK428 := kG_ BK428.out hg (Kd.R_ne HO436.out BK428.out (by decide)); replace HB := Aside0.mk hb; clear HO436; clear ho hb hg hat))
                        go_roundg kj15
                        case measure => have := HK1.out; have := HJ15.out; omega
                        case rel => exact ⟨(y439), (true), (wrap64 (x12_1 + 1)), r1_, r1_, H', ⟨by have := HK1.out; have := HJ15.out; omega⟩, ⟨rT_ HO441.out⟩, ⟨vM_ HO_428000.out⟩, ⟨bT_ BK427.out⟩, ⟨bT_ BK428.out⟩, ⟨beT_⟩⟩
                      rw [if_neg c31] at H
                      exact absurd H (by simp)
                    rw [if_neg c26] at H
                    exact absurd H (by simp)
                  rw [if_neg c25] at H
                  exact absurd H (by simp)
                rw [if_neg c24] at H
                exact absurd H (by simp)
              replace c23 := Bool.eq_false_iff.mpr c23
              subst c23
              replace H := hN_ H
              by_cases c36 : 0 ≤ x12_1
              · rw [if_pos c36] at H
                have c36b0 : decide (0 ≤ x12_1) = true := decide_eq_true c36
                clear c36
                by_cases c37 : x12_1 < (l0_1.length : Int)
                · rw [if_pos c37] at H
                  have c37b0 : decide (x12_1 < (l0_1.length : Int)) = true := decide_eq_true c37
                  clear c37
                  by_cases c38 : ((rd_T88 l0_1 x12_1).f0) = (IntKind.u64.wrap (a1 - (Int.tmod a1 8)))
                  · rw [if_pos c38] at H
                    have c38b0 : (((rd_T88 l0_1 x12_1).f0) == (IntKind.u64.wrap (a1 - (Int.tmod a1 8)))) = true := beq_iff_eq.mpr c38
                    have c38b1 : (((rd_T88 l0_1 x12_1).f0) != (IntKind.u64.wrap (a1 - (Int.tmod a1 8)))) = false := bne_eq_false_iff_eq.mpr c38
                    clear c38
                    have H' := Aside0.mk H
                    clear H
                    have hnb39 := NB427_428.out
                    have hnc39 := NB428_427.out
                    obtain ⟨hcz40_0, hcz40_1, hfz40_0, hfz40_1⟩ := b2_ BK427.out
                    have p442 : 0 ≤ (x12_1 : Int) := dT_
                    have q442 : x12_1 < (l0_1.length : Int) := dT_
                    obtain ⟨ad442, e442, hx442_0, hx442_1⟩ := at_T88 HR0_1.out x12_1 p442 q442
                    cases e442
                    replace hx442_0 := hX_ hx442_0
                    replace hx442_1 := hX_ hx442_1
                    replace p442 := eq_true p442
                    replace q442 := eq_true q442
                    go_wp2
                    go_roundg kj15
                    case measure => have := HK1.out; have := HJ15.out; omega
                    case rel => exact ⟨(x10_1), (x11_1), (wrap64 (x12_1 + 1)), r1_, r1_, H', ⟨by have := HK1.out; have := HJ15.out; omega⟩, ⟨rT_ HO_10.out⟩, ⟨vT_ HO_428000.out⟩, ⟨bT_ BK427.out⟩, ⟨bT_ BK428.out⟩, ⟨beT_⟩⟩
                  rw [if_neg c38] at H
                  have c38b0 : (((rd_T88 l0_1 x12_1).f0) == (IntKind.u64.wrap (a1 - (Int.tmod a1 8)))) = false := beq_eq_false_iff_ne.mpr c38
                  have c38b1 : (((rd_T88 l0_1 x12_1).f0) != (IntKind.u64.wrap (a1 - (Int.tmod a1 8)))) = true := bne_iff_ne.mpr c38
                  by_cases c41 : x10_1.length < 8796093022208
                  · rw [if_pos c41] at H
                    have LMc41 := Aside0.mk c41
                    clear c41
                    obtain ⟨y444, hy444⟩ : ∃ y_ : List (S88), y_ = (x10_1 ++ [(⟨(rd_T88 l0_1 x12_1).f0, (rd_T88 l0_1 x12_1).f1⟩ : S88)]) := ⟨_, rfl⟩
                    replace H : (ferryref03_poke.l0 kj15 (IntKind.u64.wrap (a1 - (Int.tmod a1 8))) (Go.bits .or .u64 (Go.bits .andNot .u64 t429 (ji7)) (ji9)) y444 x11_1 (wrap64 (x12_1 + 1)) l0_0 l0_1) = some (r1, r2) := by (rw [hy444]; with_reducible exact H)
                    have Ny444 := Aside0.mk hy444
                    clear hy444
                    have H' := Aside0.mk H
                    clear H
                    have hnb42 := NB427_428.out
                    have hnc42 := NB428_427.out
                    obtain ⟨hcz43_0, hcz43_1, hfz43_0, hfz43_1⟩ := b2_ BK427.out
                    have p442 : 0 ≤ (x12_1 : Int) := dT_
                    have q442 : x12_1 < (l0_1.length : Int) := dT_
                    obtain ⟨ad442, e442, hx442_0, hx442_1⟩ := at_T88 HR0_1.out x12_1 p442 q442
                    cases e442
                    replace hx442_0 := hX_ hx442_0
                    replace hx442_1 := hX_ hx442_1
                    replace p442 := eq_true p442
                    replace q442 := eq_true q442
                    have p443 : 0 ≤ (x12_1 : Int) := dT_
                    have q443 : x12_1 < (l0_1.length : Int) := dT_
                    obtain ⟨ad443, e443, hx443_0, hx443_1⟩ := at_T88 HR0_1.out x12_1 p443 q443
                    obtain rfl : ad442 = ad443 := (by injection e443)
                    replace hx443_0 := hX_ hx443_0
                    replace hx443_1 := hX_ hx443_1
                    replace p443 := eq_true p443
                    replace q443 := eq_true q443
                    go_wp2_with (((with_reducible refine gate_builtin (b := .append) (xs := #[.tmp 66, .tmp 72]) rfl ?_); at_builtin; refine Kd.R_append k88 (w0 := w) w.heap.size rfl (.tmp 66) (.tmp 72) 23 88 (.agg #[(.int .u64 0), (.int .u64 0)]) 16 rfl Try.underlying23 info88 rfl (by decide) (by omega) u10 x10_1 (⟨(rd_T88 l0_1 x12_1).f0, (rd_T88 l0_1 x12_1).f1⟩ : S88) [.int .u64 ((rd_T88 l0_1 x12_1).f0), .int .u64 ((rd_T88 l0_1 x12_1).f1)] (fun k_ => (w.heap.size ≤ k_)) (fun _ => False) rfl rfl ?aP (fun _ hk => hk.elim) ?aF ?aO ?aB ?aS ?aL ?_; (case aP => exact k88_mkM _ _ _ (⟨(rd_T88 l0_1 x12_1).f0, (rd_T88 l0_1 x12_1).f1⟩ : S88)); (case aB => exact beT_); (case aF => exact (fun k_ hk => (Nat.le_trans (below_size beT_) hk))); (case aO => exact (rT_ HO_10.out)); (case aS => exact (below_size beT_)); (case aL => have := LMc41.out; omega); intro v445 w44 ho hb hg hat; rw [← Ny444.out] at ho; have HO446 := Aside0.mk ho; replace HO_428000 := Aside0.mk (Kd.V_afterv (ok := (fun k_ => (P0_0_ k_ ∨ w.heap.size ≤ k_) ∧ k_ ≠ gb427 ∧ k_ ≠ gb428)) (vM_ HO_428000.out) hg hat); replace BK427 := kG_ BK427.out hg (Kd.R_ne HO_10.out BK427.out (by decide)); replace BK428 := kG_ BK428.out hg (Kd.R_ne HO_10.out BK428.out (by decide)); replace HB := Aside0.mk hb; clear HO_10; clear ho hb hg hat))
                    go_roundg kj15
                    case measure => have := HK1.out; have := HJ15.out; omega
                    case rel => exact ⟨(y444), (x11_1), (wrap64 (x12_1 + 1)), r1_, r1_, H', ⟨by have := HK1.out; have := HJ15.out; omega⟩, ⟨rT_ HO446.out⟩, ⟨vM_ HO_428000.out⟩, ⟨bT_ BK427.out⟩, ⟨bT_ BK428.out⟩, ⟨beT_⟩⟩
                  rw [if_neg c41] at H
                  exact absurd H (by simp)
                rw [if_neg c37] at H
                exact absurd H (by simp)
              rw [if_neg c36] at H
              exact absurd H (by simp)
        rw [if_neg c15] at H
        have c15b0 : decide (x12_1 < (l0_1.length : Int)) = false := decide_eq_false c15
        clear c15
        by_cases c45 : x11_1 = true
        · subst c45
          replace H := hP_ H
          simp only [Option.some.injEq, Prod.mk.injEq] at H
          obtain ⟨rfl, rfl⟩ := H
          have hnb46 := NB427_428.out
          have hnc46 := NB428_427.out
          obtain ⟨hcz47_0, hcz47_1, hfz47_0, hfz47_1⟩ := b2_ BK427.out
          obtain ⟨Ao48, co48, eo48⟩ := Kd.R_slice HO_10.out
          subst eo48
          obtain ⟨hcz49_0, hcz49_1, hfz49_0, hfz49_1⟩ := b2_ BK428.out
          go_wp2
          refine bodyPost_ret (results_cell_row rfl _ _ gb428 25 #[.slice A0_0 l0_0.length c0_0, .slice Ao48 x10_1.length co48] (0, 0) _ rfl (kP_ BK428.out) Try.underlying25 rfl (by kernel_rfl)) rfl ?_
          exact ⟨_, _, by rfl, (vF_ HO_428000.out), by (with_reducible repeat (fail)); exact Kd.R_mono (Kd.R_far (p := ⟨gb428, 1, none⟩) (Kd.R_far (p := ⟨gb428, 0, none⟩) (Kd.R_far (p := ⟨gb427, 1, none⟩) (Kd.R_types (Kd.R_types HO_10.out BK427.out (by decide)) BK428.out (by decide)) (fun _ hk => by exact hk.1.2) (.slice Ao48 x10_1.length co48)) (fun _ hk => by exact hk.2) (.slice A0_0 l0_0.length c0_0)) (fun _ hk => by exact hk.2) (.slice Ao48 x10_1.length co48)) (fun _ hk => by exact hk.1.1), beT_⟩
        replace c45 := Bool.eq_false_iff.mpr c45
        subst c45
        replace H := hN_ H
        by_cases c50 : x10_1.length < 8796093022208
        · rw [if_pos c50] at H
          have LMc50 := Aside0.mk c50
          clear c50
          obtain ⟨y430, hy430⟩ : ∃ y_ : List (S88), y_ = (x10_1 ++ [(⟨(IntKind.u64.wrap (a1 - (Int.tmod a1 8))), (Go.bits .or .u64 (Go.bits .andNot .u64 t429 (ji7)) (ji9))⟩ : S88)]) := ⟨_, rfl⟩
          replace H : (some (l0_0, y430)) = some (r1, r2) := by (rw [hy430]; with_reducible exact H)
          have Ny430 := Aside0.mk hy430
          clear hy430
          simp only [Option.some.injEq, Prod.mk.injEq] at H
          obtain ⟨rfl, rfl⟩ := H
          have hnb51 := NB427_428.out
          have hnc51 := NB428_427.out
          obtain ⟨hcz52_0, hcz52_1, hfz52_0, hfz52_1⟩ := b2_ BK427.out
          go_wp2_with (((with_reducible refine gate_builtin (b := .append) (xs := #[.tmp 76, .tmp 80]) rfl ?_); at_builtin; refine Kd.R_append k88 (w0 := w) w.heap.size rfl (.tmp 76) (.tmp 80) 23 88 (.agg #[(.int .u64 0), (.int .u64 0)]) 16 rfl Try.underlying23 info88 rfl (by decide) (by omega) u10 x10_1 (⟨(IntKind.u64.wrap (a1 - (Int.tmod a1 8))), (Go.bits .or .u64 (Go.bits .andNot .u64 t429 (ji7)) (ji9))⟩ : S88) [.int .u64 (IntKind.u64.wrap (a1 - (Int.tmod a1 8))), .int .u64 (Go.bits .or .u64 (Go.bits .andNot .u64 t429 (ji7)) (ji9))] (fun k_ => (w.heap.size ≤ k_)) (fun _ => False) rfl rfl ?aP (fun _ hk => hk.elim) ?aF ?aO ?aB ?aS ?aL ?_; (case aP => exact k88_mkM _ _ _ (⟨(IntKind.u64.wrap (a1 - (Int.tmod a1 8))), (Go.bits .or .u64 (Go.bits .andNot .u64 t429 (ji7)) (ji9))⟩ : S88)); (case aB => exact beT_); (case aF => exact (fun k_ hk => (Nat.le_trans (below_size beT_) hk))); (case aO => exact (rT_ HO_10.out)); (case aS => exact (below_size beT_)); (case aL => have := LMc50.out; omega); intro v431 w53 ho hb hg hat; rw [← Ny430.out] at ho; have HO432 := Aside0.mk ho; replace HO_428000 := Aside0.mk (Kd.V_afterv (ok := (fun k_ => (P0_0_ k_ ∨ w.heap.size ≤ k_) ∧ k_ ≠ gb427 ∧ k_ ≠ gb428)) (vM_ HO_428000.out) hg hat); replace BK427 := kG_ BK427.out hg (Kd.R_ne HO_10.out BK427.out (by decide)); replace BK428 := kG_ BK428.out hg (Kd.R_ne HO_10.out BK428.out (by decide)); replace HB := Aside0.mk hb; clear HO_10; clear ho hb hg hat; obtain ⟨Ao54, co54, eo54⟩ := Kd.R_slice HO432.out; subst eo54; obtain ⟨hcz55_0, hcz55_1, hfz55_0, hfz55_1⟩ := b2_ BK427.out; obtain ⟨hcz56_0, hcz56_1, hfz56_0, hfz56_1⟩ := b2_ BK428.out))
          refine bodyPost_ret (results_cell_row rfl _ _ gb428 25 #[.slice A0_0 l0_0.length c0_0, .slice Ao54 y430.length co54] (0, 0) _ rfl (kP_ BK428.out) Try.underlying25 rfl (by kernel_rfl)) rfl ?_
          exact ⟨_, _, by rfl, (vF_ HO_428000.out), by (with_reducible repeat (fail)); exact Kd.R_mono (Kd.R_far (p := ⟨gb428, 1, none⟩) (Kd.R_far (p := ⟨gb428, 0, none⟩) (Kd.R_far (p := ⟨gb427, 1, none⟩) (Kd.R_types (Kd.R_types HO432.out BK427.out (by decide)) BK428.out (by decide)) (fun _ hk => by exact hk.1.2) (.slice Ao54 y430.length co54)) (fun _ hk => by exact hk.2) (.slice A0_0 l0_0.length c0_0)) (fun _ hk => by exact hk.2) (.slice Ao54 y430.length co54)) (fun _ hk => by exact hk.1.1), beT_⟩
        rw [if_neg c50] at H
        exact absurd H (by simp)
  rw [if_neg c6] at H
  exact absurd H (by simp)

end Go.Proofs.Ytgkjdpdmmlalcaa.F
end
