import Derived.Test.YtgkjdpdmmlalcaaVZF0
import Derived.Test.YtgkjdpdmmlalcaaVA0
import Derived.Test.YtgkjdpdmmlalcaaVA2
import Derived.Test.YtgkjdpdmmlalcaaVA4
import Derived.Test.YtgkjdpdmmlalcaaVA6
import Derived.Test.YtgkjdpdmmlalcaaVA8
import Derived.Test.YtgkjdpdmmlalcaaVA11HHost6
import Derived.Test.YtgkjdpdmmlalcaaVA12
import Derived.Test.YtgkjdpdmmlalcaaVA16
import Derived.Test.YtgkjdpdmmlalcaaVA18
import Derived.Test.YtgkjdpdmmlalcaaVA22
section
namespace Go.Proofs.Ytgkjdpdmmlalcaa.F
open Go.RowKit Go.Proofs.YtgkjdpdmmlalcaaW.PrintWords Go.Proofs.YtgkjdpdmmlalcaaW.PrintLast Go.Proofs.YtgkjdpdmmlalcaaW.PrintMore
attribute [local go_sem] max2_int min2_int max_two min_two max_three min_three max_four min_four
set_option linter.unusedVariables false
set_option linter.unusedSimpArgs false

def ferryref05_kind.f (k : Nat) (l0_0 : List (S83)) (l0_1 : List (S88)) (a0_2 : Int) (l0_3 : List (S41)) (a1 : Int) (a2 : Int) : Option (Int) := if a1 ≥ 4294967296 then (some 1) else ((ferryref04_Prot.f k l0_0 l0_1 a0_2 l0_3 (((a1) % 4294967296) / 4096)).bind fun t287 => (if t287 < 0 then (some 1) else (if a2 > 0 then (if (Go.bits .and .i64 t287 a2) = 0 then (some 2) else (some 0)) else (some 0))))
set_option maxHeartbeats 8000000 in
set_option maxRecDepth 100000 in
theorem ferryref05_kind.calls (k : Nat) (A0_0 : Option Addr) (c0_0 : Nat) (l0_0 : List (S83)) (A0_1 : Option Addr) (c0_1 : Nat) (l0_1 : List (S88)) (a0_2 : Int) (A0_3 : Option Addr) (c0_3 : Nat) (l0_3 : List (S41)) (a1 : Int) (a2 : Int) (r : Int) (w : World) (hr0_0 : Kd.C k83 w A0_0 l0_0.length l0_0) (hc0_0 : l0_0.length ≤ c0_0) (hr0_1 : Kd.C k88 w A0_1 l0_1.length l0_1) (hc0_1 : l0_1.length ≤ c0_1) (hr0_3 : Kd.C k41 w A0_3 l0_3.length l0_3) (hc0_3 : l0_3.length ≤ c0_3) (h : ferryref05_kind.f k l0_0 l0_1 a0_2 l0_3 a1 a2 = some r) :
    Calls Try.prog 60 #[.agg #[.slice A0_0 l0_0.length c0_0, .slice A0_1 l0_1.length c0_1, .int .u64 a0_2, .slice A0_3 l0_3.length c0_3], .int .u64 a1, .int .i64 a2] w fun e w' => e = .returned (.int .i64 r) ∧ Below w.heap.size w w' := by
  have hu29 := Try.underlying29
  have HR0_0 := Aside0.mk hr0_0
  have HC0_0 := Aside0.mk hc0_0
  clear hr0_0 hc0_0
  have HR0_1 := Aside0.mk hr0_1
  have HC0_1 := Aside0.mk hc0_1
  clear hr0_1 hc0_1
  have HR0_3 := Aside0.mk hr0_3
  have HC0_3 := Aside0.mk hc0_3
  clear hr0_3 hc0_3
  have HB := Aside0.mk (Below.refl w.heap.size w)
  have H : (if a1 ≥ 4294967296 then (some 1) else ((ferryref04_Prot.f k l0_0 l0_1 a0_2 l0_3 (((a1) % 4294967296) / 4096)).bind fun t287 => (if t287 < 0 then (some 1) else (if a2 > 0 then (if (Go.bits .and .i64 t287 a2) = 0 then (some 2) else (some 0)) else (some 0))))) = some r := h
  clear h
  by_cases c4 : a1 ≥ 4294967296
  · rw [if_pos c4] at H
    have c4b0 : decide (4294967296 ≤ a1) = true := decide_eq_true c4
    clear c4
    obtain rfl := Option.some.inj H
    go_enter Try.func60, Try.ntmps60
    go_wp2_with (first | ((with_reducible refine gate_dst (N := 3) rfl ?_); refine bE_ 3 #[.slice A0_0 l0_0.length c0_0, .slice A0_1 l0_1.length c0_1, .int .u64 a0_2, .slice A0_3 l0_3.length c0_3] 29 ?_; intro gb286 hg w5 hbox hb; have BK286 := Aside0.mk hbox; have GW286 := geT_ w.heap.size hg; have GE286 := geT_ w.heap.size hg; replace HB := hB_ hb; clear hb hbox hg))
    go_ret
    exact ⟨r3_, beT_⟩
  rw [if_neg c4] at H
  have c4b0 : decide (4294967296 ≤ a1) = false := decide_eq_false c4
  clear c4
  replace H := Option.bind_eq_some_iff.mp H
  obtain ⟨t287, A60, H⟩ := H
  have A6 := Aside0.mk A60
  clear A60
  by_cases c7 : t287 < 0
  · rw [if_pos c7] at H
    have c7b0 : decide (t287 < 0) = true := decide_eq_true c7
    clear c7
    obtain rfl := Option.some.inj H
    go_enter Try.func60, Try.ntmps60
    go_wp2_with (first | ((with_reducible refine gate_dst (N := 3) rfl ?_); refine bE_ 3 #[.slice A0_0 l0_0.length c0_0, .slice A0_1 l0_1.length c0_1, .int .u64 a0_2, .slice A0_3 l0_3.length c0_3] 29 ?_; intro gb286 hg w8 hbox hb; have BK286 := Aside0.mk hbox; have GW286 := geT_ w.heap.size hg; have GE286 := geT_ w.heap.size hg; replace HB := hB_ hb; clear hb hbox hg; obtain ⟨hcz9_0, hcz9_1, hcz9_2, hcz9_3, hfz9_0, hfz9_1, hfz9_2, hfz9_3⟩ := b4_ BK286.out) | ((with_reducible refine gate_callee (f := 30) rfl ?_); refine gL_ (some 14) Try.func30 #[.agg #[.slice A0_0 l0_0.length c0_0, .slice A0_1 l0_1.length c0_1, .int .u64 a0_2, .slice A0_3 l0_3.length c0_3], .int .u32 (((a1) % 4294967296) / 4096)] ?_; (with_reducible refine (ferryref04_Prot.calls k _ _ l0_0 _ _ l0_1 a0_2 _ _ l0_3 (((a1) % 4294967296) / 4096) t287 _ ?side1 ?side2 ?side3 ?side4 ?side5 ?side6 A6.out).mono ?_); (case side1 => exact cT_ (Kd.C_below HR0_0.out HB.out)); (case side2 => exact HC0_0.out); (case side3 => exact cT_ (Kd.C_below HR0_1.out HB.out)); (case side4 => exact HC0_1.out); (case side5 => exact cT_ (Kd.C_below HR0_3.out HB.out)); (case side6 => exact HC0_3.out); rintro e w10 ⟨rfl, hb⟩; refine ⟨_, rfl, ?_⟩; replace BK286 := kB_ BK286 hb; replace HB := hB_ hb; (try clear hb); (try clear hb2); (try clear hk); (try clear hi)))
    go_ret
    exact ⟨r3_, beT_⟩
  rw [if_neg c7] at H
  have c7b0 : decide (t287 < 0) = false := decide_eq_false c7
  clear c7
  by_cases c11 : a2 > 0
  · rw [if_pos c11] at H
    have c11b0 : decide (0 < a2) = true := decide_eq_true c11
    clear c11
    by_cases c12 : (Go.bits .and .i64 t287 a2) = 0
    · rw [if_pos c12] at H
      have c12b0 : ((Go.bits .and .i64 t287 a2) == 0) = true := beq_iff_eq.mpr c12
      have c12b1 : ((Go.bits .and .i64 t287 a2) != 0) = false := bne_eq_false_iff_eq.mpr c12
      clear c12
      obtain rfl := Option.some.inj H
      go_enter Try.func60, Try.ntmps60
      go_wp2_with (first | ((with_reducible refine gate_dst (N := 3) rfl ?_); refine bE_ 3 #[.slice A0_0 l0_0.length c0_0, .slice A0_1 l0_1.length c0_1, .int .u64 a0_2, .slice A0_3 l0_3.length c0_3] 29 ?_; intro gb286 hg w13 hbox hb; have BK286 := Aside0.mk hbox; have GW286 := geT_ w.heap.size hg; have GE286 := geT_ w.heap.size hg; replace HB := hB_ hb; clear hb hbox hg; obtain ⟨hcz14_0, hcz14_1, hcz14_2, hcz14_3, hfz14_0, hfz14_1, hfz14_2, hfz14_3⟩ := b4_ BK286.out) | ((with_reducible refine gate_callee (f := 30) rfl ?_); refine gL_ (some 14) Try.func30 #[.agg #[.slice A0_0 l0_0.length c0_0, .slice A0_1 l0_1.length c0_1, .int .u64 a0_2, .slice A0_3 l0_3.length c0_3], .int .u32 (((a1) % 4294967296) / 4096)] ?_; (with_reducible refine (ferryref04_Prot.calls k _ _ l0_0 _ _ l0_1 a0_2 _ _ l0_3 (((a1) % 4294967296) / 4096) t287 _ ?side1 ?side2 ?side3 ?side4 ?side5 ?side6 A6.out).mono ?_); (case side1 => exact cT_ (Kd.C_below HR0_0.out HB.out)); (case side2 => exact HC0_0.out); (case side3 => exact cT_ (Kd.C_below HR0_1.out HB.out)); (case side4 => exact HC0_1.out); (case side5 => exact cT_ (Kd.C_below HR0_3.out HB.out)); (case side6 => exact HC0_3.out); rintro e w15 ⟨rfl, hb⟩; refine ⟨_, rfl, ?_⟩; replace BK286 := kB_ BK286 hb; replace HB := hB_ hb; (try clear hb); (try clear hb2); (try clear hk); (try clear hi)))
      go_ret
      exact ⟨r3_, beT_⟩
    rw [if_neg c12] at H
    have c12b0 : ((Go.bits .and .i64 t287 a2) == 0) = false := beq_eq_false_iff_ne.mpr c12
    have c12b1 : ((Go.bits .and .i64 t287 a2) != 0) = true := bne_iff_ne.mpr c12
    obtain rfl := Option.some.inj H
    go_enter Try.func60, Try.ntmps60
    go_wp2_with (first | ((with_reducible refine gate_dst (N := 3) rfl ?_); refine bE_ 3 #[.slice A0_0 l0_0.length c0_0, .slice A0_1 l0_1.length c0_1, .int .u64 a0_2, .slice A0_3 l0_3.length c0_3] 29 ?_; intro gb286 hg w16 hbox hb; have BK286 := Aside0.mk hbox; have GW286 := geT_ w.heap.size hg; have GE286 := geT_ w.heap.size hg; replace HB := hB_ hb; clear hb hbox hg; obtain ⟨hcz17_0, hcz17_1, hcz17_2, hcz17_3, hfz17_0, hfz17_1, hfz17_2, hfz17_3⟩ := b4_ BK286.out) | ((with_reducible refine gate_callee (f := 30) rfl ?_); refine gL_ (some 14) Try.func30 #[.agg #[.slice A0_0 l0_0.length c0_0, .slice A0_1 l0_1.length c0_1, .int .u64 a0_2, .slice A0_3 l0_3.length c0_3], .int .u32 (((a1) % 4294967296) / 4096)] ?_; (with_reducible refine (ferryref04_Prot.calls k _ _ l0_0 _ _ l0_1 a0_2 _ _ l0_3 (((a1) % 4294967296) / 4096) t287 _ ?side1 ?side2 ?side3 ?side4 ?side5 ?side6 A6.out).mono ?_); (case side1 => exact cT_ (Kd.C_below HR0_0.out HB.out)); (case side2 => exact HC0_0.out); (case side3 => exact cT_ (Kd.C_below HR0_1.out HB.out)); (case side4 => exact HC0_1.out); (case side5 => exact cT_ (Kd.C_below HR0_3.out HB.out)); (case side6 => exact HC0_3.out); rintro e w18 ⟨rfl, hb⟩; refine ⟨_, rfl, ?_⟩; replace BK286 := kB_ BK286 hb; replace HB := hB_ hb; (try clear hb); (try clear hb2); (try clear hk); (try clear hi)))
    go_ret
    exact ⟨r3_, beT_⟩
  rw [if_neg c11] at H
  have c11b0 : decide (0 < a2) = false := decide_eq_false c11
  clear c11
  obtain rfl := Option.some.inj H
  go_enter Try.func60, Try.ntmps60
  go_wp2_with (first | ((with_reducible refine gate_dst (N := 3) rfl ?_); refine bE_ 3 #[.slice A0_0 l0_0.length c0_0, .slice A0_1 l0_1.length c0_1, .int .u64 a0_2, .slice A0_3 l0_3.length c0_3] 29 ?_; intro gb286 hg w19 hbox hb; have BK286 := Aside0.mk hbox; have GW286 := geT_ w.heap.size hg; have GE286 := geT_ w.heap.size hg; replace HB := hB_ hb; clear hb hbox hg; obtain ⟨hcz20_0, hcz20_1, hcz20_2, hcz20_3, hfz20_0, hfz20_1, hfz20_2, hfz20_3⟩ := b4_ BK286.out) | ((with_reducible refine gate_callee (f := 30) rfl ?_); refine gL_ (some 14) Try.func30 #[.agg #[.slice A0_0 l0_0.length c0_0, .slice A0_1 l0_1.length c0_1, .int .u64 a0_2, .slice A0_3 l0_3.length c0_3], .int .u32 (((a1) % 4294967296) / 4096)] ?_; (with_reducible refine (ferryref04_Prot.calls k _ _ l0_0 _ _ l0_1 a0_2 _ _ l0_3 (((a1) % 4294967296) / 4096) t287 _ ?side1 ?side2 ?side3 ?side4 ?side5 ?side6 A6.out).mono ?_); (case side1 => exact cT_ (Kd.C_below HR0_0.out HB.out)); (case side2 => exact HC0_0.out); (case side3 => exact cT_ (Kd.C_below HR0_1.out HB.out)); (case side4 => exact HC0_1.out); (case side5 => exact cT_ (Kd.C_below HR0_3.out HB.out)); (case side6 => exact HC0_3.out); rintro e w21 ⟨rfl, hb⟩; refine ⟨_, rfl, ?_⟩; replace BK286 := kB_ BK286 hb; replace HB := hB_ hb; (try clear hb); (try clear hb2); (try clear hk); (try clear hi)))
  go_ret
  exact ⟨r3_, beT_⟩

end Go.Proofs.Ytgkjdpdmmlalcaa.F
end
section
namespace Go.Proofs.Ytgkjdpdmmlalcaa.F
open Go.RowKit Go.Proofs.YtgkjdpdmmlalcaaW.PrintWords Go.Proofs.YtgkjdpdmmlalcaaW.PrintLast Go.Proofs.YtgkjdpdmmlalcaaW.PrintMore
attribute [local go_sem] max2_int min2_int max_two min_two max_three min_three max_four min_four
attribute [local go_sem] cell_twice
set_option linter.unusedVariables false
set_option linter.unusedSimpArgs false

def ferryref05_ask.l0 : Nat → Int → Int → Int → Int → List (S83) → List (S88) → Int → List (S41) → Option (Int × Int)
  | 0, _, _, _, _, _, _, _, _ => none
  | k + 1, x1, x2, x3, x9, x289000, x289001, x289002, x289003 => if x9 < x2 then ((ferryref05_kind.f k x289000 x289001 x289002 x289003 (IntKind.u64.wrap ((IntKind.u64.wrap (x1)) + (IntKind.u64.wrap (x9)))) x3).bind fun t290 => (if t290 = 0 then (ferryref05_ask.l0 k x1 x2 x3 (wrap64 (x9 + 1)) x289000 x289001 x289002 x289003) else (some (t290, IntKind.u64.wrap ((IntKind.u64.wrap (x1)) + (IntKind.u64.wrap (x9))))))) else (some (0, 0))
def ferryref05_ask.f (k : Nat) (l0_0 : List (S83)) (l0_1 : List (S88)) (a0_2 : Int) (l0_3 : List (S41)) (a1 : Int) (a2 : Int) (a3 : Int) : Option (Int × Int) := ferryref05_ask.l0 k a1 a2 a3 0 l0_0 l0_1 a0_2 l0_3
set_option maxHeartbeats 8000000 in
set_option maxRecDepth 100000 in
theorem ferryref05_ask.calls (k : Nat) (A0_0 : Option Addr) (c0_0 : Nat) (l0_0 : List (S83)) (A0_1 : Option Addr) (c0_1 : Nat) (l0_1 : List (S88)) (a0_2 : Int) (A0_3 : Option Addr) (c0_3 : Nat) (l0_3 : List (S41)) (a1 : Int) (a2 : Int) (a3 : Int) (r1 : Int) (r2 : Int) (w : World) (hr0_0 : Kd.C k83 w A0_0 l0_0.length l0_0) (hc0_0 : l0_0.length ≤ c0_0) (hr0_1 : Kd.C k88 w A0_1 l0_1.length l0_1) (hc0_1 : l0_1.length ≤ c0_1) (hr0_3 : Kd.C k41 w A0_3 l0_3.length l0_3) (hc0_3 : l0_3.length ≤ c0_3) (h : ferryref05_ask.f k l0_0 l0_1 a0_2 l0_3 a1 a2 a3 = some (r1, r2)) :
    Calls Try.prog 54 #[.agg #[.slice A0_0 l0_0.length c0_0, .slice A0_1 l0_1.length c0_1, .int .u64 a0_2, .slice A0_3 l0_3.length c0_3], .int .u32 a1, .int .i64 a2, .int .i64 a3] w fun e w' => e = .returned (.agg #[.int .i64 r1, .int .u64 r2]) ∧ Below w.heap.size w w' := by
  have hu29 := Try.underlying29
  have hu34 := Try.underlying34
  have HR0_0 := Aside0.mk hr0_0
  have HC0_0 := Aside0.mk hc0_0
  clear hr0_0 hc0_0
  have HR0_1 := Aside0.mk hr0_1
  have HC0_1 := Aside0.mk hc0_1
  clear hr0_1 hc0_1
  have HR0_3 := Aside0.mk hr0_3
  have HC0_3 := Aside0.mk hc0_3
  clear hr0_3 hc0_3
  have HB := Aside0.mk (Below.refl w.heap.size w)
  have H : (ferryref05_ask.l0 k a1 a2 a3 0 l0_0 l0_1 a0_2 l0_3) = some (r1, r2) := h
  clear h
  have H' := Aside0.mk H
  clear H
  go_enter Try.func54, Try.ntmps54
  go_wp2_with (first | ((with_reducible refine gate_dst (N := 4) rfl ?_); refine bE_ 4 #[.slice A0_0 l0_0.length c0_0, .slice A0_1 l0_1.length c0_1, .int .u64 a0_2, .slice A0_3 l0_3.length c0_3] 29 ?_; intro gb288 hg w5 hbox hb; have BK288 := Aside0.mk hbox; have GW288 := geT_ w.heap.size hg; have GE288 := geT_ w.heap.size hg; replace HB := hB_ hb; clear hb hbox hg) | ((with_reducible refine gate_dst (N := 8) rfl ?_); refine bE_ 8 #[.int .i64 0, .int .u64 0] 34 ?_; intro gb289 hg w6 hbox hb; have BK289 := Aside0.mk hbox; have GW289 := geT_ w.heap.size hg; have GE289 := geT_ w.heap.size hg; have NB288_289 := nlT_ BK288.out hg; have NB289_288 := ngT_ BK288.out hg; replace BK288 := kB_ BK288 hb; replace HB := hB_ hb; clear hb hbox hg))
  go_loopg [9] k (fun kq v9 w' => ∃ (x9_1 : Int) (x290000_1 : Int) (x290001_1 : Int), v9 = .int .i64 x9_1 ∧ Aside0 (ferryref05_ask.l0 kq a1 a2 a3 x9_1 l0_0 l0_1 a0_2 l0_3 = some (r1, r2)) ∧ Aside0 (kq ≤ k) ∧ Aside0 (w'.heap[gb288]? = some (.cells #[(.slice A0_0 l0_0.length c0_0), (.slice A0_1 l0_1.length c0_1), .int .u64 a0_2, (.slice A0_3 l0_3.length c0_3)] 29 (0, 0))) ∧ Aside0 (w'.heap[gb289]? = some (.cells #[.int .i64 x290000_1, .int .u64 x290001_1] 34 (0, 0))) ∧ Aside0 (Below w.heap.size w w'))
  case atStart => exact ⟨(0), (0), (0), r1_, H', ⟨Nat.le_refl _⟩, ⟨bT_ BK288.out⟩, ⟨bT_ BK289.out⟩, ⟨beT_⟩⟩
  case round =>
    clear H'
    try clear p2
    try clear c5
    obtain ⟨x9_1, x290000_1, x290001_1, rfl, HA, HK1, BK288, BK289, HB⟩ := hrel
    cases gk with
    | zero => exact absurd HA.out (by simp [ferryref05_ask.l0])
    | succ k1 =>
      have H := HA.out
      clear HA
      simp only [ferryref05_ask.l0] at H
      by_cases c7 : x9_1 < a2
      · rw [if_pos c7] at H
        have c7b0 : decide (x9_1 < a2) = true := decide_eq_true c7
        clear c7
        replace H := Option.bind_eq_some_iff.mp H
        obtain ⟨t290, A80, H⟩ := H
        have A8 := Aside0.mk A80
        clear A80
        by_cases c9 : t290 = 0
        · rw [if_pos c9] at H
          have c9b0 : (t290 == 0) = true := beq_iff_eq.mpr c9
          have c9b1 : (t290 != 0) = false := bne_eq_false_iff_eq.mpr c9
          clear c9
          have H' := Aside0.mk H
          clear H
          have hnb10 := NB288_289.out
          have hnc10 := NB289_288.out
          obtain ⟨hcz11_0, hcz11_1, hcz11_2, hcz11_3, hfz11_0, hfz11_1, hfz11_2, hfz11_3⟩ := b4_ BK288.out
          go_wp2_with (first | ((with_reducible refine gate_callee (f := 60) rfl ?_); refine gL_ (some 25) Try.func60 #[.agg #[.slice A0_0 l0_0.length c0_0, .slice A0_1 l0_1.length c0_1, .int .u64 a0_2, .slice A0_3 l0_3.length c0_3], .int .u64 (IntKind.u64.wrap ((IntKind.u64.wrap (a1)) + (IntKind.u64.wrap (x9_1)))), .int .i64 a3] ?_; (with_reducible refine (ferryref05_kind.calls k1 _ _ l0_0 _ _ l0_1 a0_2 _ _ l0_3 (IntKind.u64.wrap ((IntKind.u64.wrap (a1)) + (IntKind.u64.wrap (x9_1)))) a3 t290 _ ?side1 ?side2 ?side3 ?side4 ?side5 ?side6 A8.out).mono ?_); (case side1 => exact cT_ (Kd.C_below HR0_0.out HB.out)); (case side2 => exact HC0_0.out); (case side3 => exact cT_ (Kd.C_below HR0_1.out HB.out)); (case side4 => exact HC0_1.out); (case side5 => exact cT_ (Kd.C_below HR0_3.out HB.out)); (case side6 => exact HC0_3.out); rintro e w12 ⟨rfl, hb⟩; refine ⟨_, rfl, ?_⟩; replace BK288 := kB_ BK288 hb; replace BK289 := kB_ BK289 hb; replace HB := hB_ hb; (try clear hb); (try clear hb2); (try clear hk); (try clear hi)))
          go_roundg k1
          case measure => have := HK1.out; omega
          case rel => exact ⟨(wrap64 (x9_1 + 1)), (x290000_1), (x290001_1), r1_, H', ⟨by have := HK1.out; omega⟩, ⟨bT_ BK288.out⟩, ⟨bT_ BK289.out⟩, ⟨beT_⟩⟩
        rw [if_neg c9] at H
        have c9b0 : (t290 == 0) = false := beq_eq_false_iff_ne.mpr c9
        have c9b1 : (t290 != 0) = true := bne_iff_ne.mpr c9
        simp only [Option.some.injEq, Prod.mk.injEq] at H
        obtain ⟨rfl, rfl⟩ := H
        have hnb13 := NB288_289.out
        have hnc13 := NB289_288.out
        obtain ⟨hcz14_0, hcz14_1, hcz14_2, hcz14_3, hfz14_0, hfz14_1, hfz14_2, hfz14_3⟩ := b4_ BK288.out
        go_wp2_with (first | ((with_reducible refine gate_callee (f := 60) rfl ?_); refine gL_ (some 25) Try.func60 #[.agg #[.slice A0_0 l0_0.length c0_0, .slice A0_1 l0_1.length c0_1, .int .u64 a0_2, .slice A0_3 l0_3.length c0_3], .int .u64 (IntKind.u64.wrap ((IntKind.u64.wrap (a1)) + (IntKind.u64.wrap (x9_1)))), .int .i64 a3] ?_; (with_reducible refine (ferryref05_kind.calls k1 _ _ l0_0 _ _ l0_1 a0_2 _ _ l0_3 (IntKind.u64.wrap ((IntKind.u64.wrap (a1)) + (IntKind.u64.wrap (x9_1)))) a3 t290 _ ?side1 ?side2 ?side3 ?side4 ?side5 ?side6 A8.out).mono ?_); (case side1 => exact cT_ (Kd.C_below HR0_0.out HB.out)); (case side2 => exact HC0_0.out); (case side3 => exact cT_ (Kd.C_below HR0_1.out HB.out)); (case side4 => exact HC0_1.out); (case side5 => exact cT_ (Kd.C_below HR0_3.out HB.out)); (case side6 => exact HC0_3.out); rintro e w15 ⟨rfl, hb⟩; refine ⟨_, rfl, ?_⟩; replace BK288 := kB_ BK288 hb; replace BK289 := kB_ BK289 hb; replace HB := hB_ hb; (try clear hb); (try clear hb2); (try clear hk); (try clear hi); obtain ⟨hcz16_0, hcz16_1, hfz16_0, hfz16_1⟩ := b2_ BK289.out))
        refine bodyPost_ret (results_cell_row rfl _ _ gb289 34 #[.int .i64 t290, .int .u64 (IntKind.u64.wrap ((IntKind.u64.wrap (a1)) + (IntKind.u64.wrap (x9_1))))] (0, 0) _ rfl (kP_ BK289.out) Try.underlying34 rfl (by kernel_rfl)) rfl ?_
        exact ⟨r3_, beT_⟩
      rw [if_neg c7] at H
      have c7b0 : decide (x9_1 < a2) = false := decide_eq_false c7
      clear c7
      simp only [Option.some.injEq, Prod.mk.injEq] at H
      obtain ⟨rfl, rfl⟩ := H
      have hnb17 := NB289_288.out
      have hnc17 := NB288_289.out
      obtain ⟨hcz18_0, hcz18_1, hfz18_0, hfz18_1⟩ := b2_ BK289.out
      go_wp2
      refine bodyPost_ret (results_cell_row rfl _ _ gb289 34 #[.int .i64 0, .int .u64 0] (0, 0) _ rfl (kP_ BK289.out) Try.underlying34 rfl (by kernel_rfl)) rfl ?_
      exact ⟨r3_, beT_⟩

end Go.Proofs.Ytgkjdpdmmlalcaa.F
end
section
namespace Go.Proofs.Ytgkjdpdmmlalcaa.F
open Go.RowKit Go.Proofs.YtgkjdpdmmlalcaaW.PrintWords Go.Proofs.YtgkjdpdmmlalcaaW.PrintLast Go.Proofs.YtgkjdpdmmlalcaaW.PrintMore
attribute [local go_sem] max2_int min2_int max_two min_two max_three min_three max_four min_four
set_option linter.unusedVariables false
set_option linter.unusedSimpArgs false

def ferryref05_peek.l0 : Nat → Int → Int → List Int → Int → List (S83) → List (S88) → Int → List (S41) → Option (ByteArray)
  | 0, _, _, _, _, _, _, _, _ => none
  | k + 1, x1, x2, x7, x8, x402000, x402001, x402002, x402003 => if x8 < x2 then ((ferryref04_Place.f x402000 x402001 x402002 x402003 x1).bind fun t405 => ((ferryref03_Peek.f k x402000 x402001 (IntKind.u64.wrap (t405 + (IntKind.u64.wrap (x8))))).bind fun t406 => (if 0 ≤ x8 then (if x8 < (x7.length : Int) then (ferryref05_peek.l0 k x1 x2 (x7.set (x8 : Int).toNat t406) (wrap64 (x8 + 1)) x402000 x402001 x402002 x402003) else (none)) else (none)))) else (some (strOfNums x7))
def ferryref05_peek.f (k : Nat) (l0_0 : List (S83)) (l0_1 : List (S88)) (a0_2 : Int) (l0_3 : List (S41)) (a1 : Int) (a2 : Int) : Option (ByteArray) := if 0 ≤ a2 then (if (a2 : Int).toNat ≤ 281474976710656 then (ferryref05_peek.l0 k a1 a2 (List.replicate (a2 : Int).toNat 0) 0 l0_0 l0_1 a0_2 l0_3) else (none)) else (none)
def ferryref05_peek.T5 : Bool × List (List Nat × List Nat) := (true, [([], []), ([], []), ([], []), ([2], [2]), ([], []), ([], []), ([4, 5], [4, 5]), ([], []), ([7], [7]), ([6, 8], [6, 8]), ([3, 9, 6], [3, 9]), ([0, 1, 0, 1, 2, 3, 4, 5, 6, 7, 8, 9, 10], [0, 1]), ([11, 10, 10, 0, 1, 2, 3, 4, 5, 6, 7, 8, 9, 10], [10, 11])])
def ferryref05_peek.B5 : List Nat := [0, 0, 0, 4, 0, 0, 48, 0, 128, 496, 1020, 2047, 4095]
theorem ferryref05_peek.tab5 : rtab .any (opsOf Try.f55 5) = ferryref05_peek.T5 := by kernel_rfl
theorem ferryref05_peek.bits5 : waitsOk ferryref05_peek.T5.2 ferryref05_peek.B5 = true := by kernel_rfl
set_option maxHeartbeats 8000000 in
set_option maxRecDepth 100000 in
theorem ferryref05_peek.calls (k : Nat) (A0_0 : Option Addr) (c0_0 : Nat) (l0_0 : List (S83)) (A0_1 : Option Addr) (c0_1 : Nat) (l0_1 : List (S88)) (a0_2 : Int) (A0_3 : Option Addr) (c0_3 : Nat) (l0_3 : List (S41)) (a1 : Int) (a2 : Int) (r : ByteArray) (w : World) (hr0_0 : Kd.C k83 w A0_0 l0_0.length l0_0) (hc0_0 : l0_0.length ≤ c0_0) (hr0_1 : Kd.C k88 w A0_1 l0_1.length l0_1) (hc0_1 : l0_1.length ≤ c0_1) (hr0_3 : Kd.C k41 w A0_3 l0_3.length l0_3) (hc0_3 : l0_3.length ≤ c0_3) (h : ferryref05_peek.f k l0_0 l0_1 a0_2 l0_3 a1 a2 = some r) :
    Calls Try.prog 55 #[.agg #[.slice A0_0 l0_0.length c0_0, .slice A0_1 l0_1.length c0_1, .int .u64 a0_2, .slice A0_3 l0_3.length c0_3], .int .u32 a1, .int .i64 a2] w fun e w' => e = .returned (.string r) ∧ Below w.heap.size w w' := by
  have hu29 := Try.underlying29
  have hu25 := Try.underlying25
  have HR0_0 := Aside0.mk hr0_0
  have HC0_0 := Aside0.mk hc0_0
  clear hr0_0 hc0_0
  have HR0_1 := Aside0.mk hr0_1
  have HC0_1 := Aside0.mk hc0_1
  clear hr0_1 hc0_1
  have HR0_3 := Aside0.mk hr0_3
  have HC0_3 := Aside0.mk hc0_3
  clear hr0_3 hc0_3
  have HB := Aside0.mk (Below.refl w.heap.size w)
  have H : (if 0 ≤ a2 then (if (a2 : Int).toNat ≤ 281474976710656 then (ferryref05_peek.l0 k a1 a2 (List.replicate (a2 : Int).toNat 0) 0 l0_0 l0_1 a0_2 l0_3) else (none)) else (none)) = some r := h
  clear h
  by_cases c4 : 0 ≤ a2
  · rw [if_pos c4] at H
    have c4b0 := eq_true c4
    have c4b1 : decide (0 ≤ a2) = true := decide_eq_true c4
    clear c4
    by_cases c5 : (a2 : Int).toNat ≤ 281474976710656
    · rw [if_pos c5] at H
      have c5b0 := eq_true c5
      have c5b1 : decide ((a2 : Int).toNat ≤ 281474976710656) = true := decide_eq_true c5
      clear c5
      obtain ⟨y402, hy402⟩ : ∃ y_ : List Int, y_ = (List.replicate (a2 : Int).toNat 0) := ⟨_, rfl⟩
      replace H : (ferryref05_peek.l0 k a1 a2 y402 0 l0_0 l0_1 a0_2 l0_3) = some r := by first | (rw [hy402]; with_reducible exact H) | (have H2_ := (Option.bind_some _ _).symm.trans H; rw [hy402]; with_reducible exact H2_) | (have H2_ := (Option.bind_some _ _).symm.trans H; with_reducible exact H2_) | with_reducible exact H | (rw [hy402]; exact H) | exact H
      have Ny402 := Aside0.mk hy402
      clear hy402
      have H' := Aside0.mk H
      clear H
      go_enter Try.func55, Try.ntmps55
      go_wp2_with (first | ((with_reducible refine gate_dst (N := 3) rfl ?_); refine bE_ 3 #[.slice A0_0 l0_0.length c0_0, .slice A0_1 l0_1.length c0_1, .int .u64 a0_2, .slice A0_3 l0_3.length c0_3] 29 ?_; intro gb401 hg w6 hbox hb; have BK401 := Aside0.mk hbox; have GW401 := geT_ w.heap.size hg; have GE401 := geT_ w.heap.size hg; replace HB := hB_ hb; clear hb hbox hg) | ((with_reducible refine gate_dst (N := 10) rfl ?_); refine Kd.R_make (Kd.int .u8) _ 5 rfl (N := 10) rfl 93 _ _ rfl a2 rfl rfl Try.underlying93 (.int .u8 0) 1 info5 rfl (by decide) (by omega) 0 (ok := fun _ => True) (okp := fun _ => True) rfl (fun _ hk => hk) trivial (dT_) (Nat.le_trans (Nat.mul_le_mul_right _ (dT_ : a2.toNat ≤ 281474976710656)) (by omega)) (Below.refl _ _) (Nat.le_refl _) ?_; intro v403 w7 ho8 hb hg_ hnew_; clear hg_ hnew_; (first | rw [← Ny402.out] at ho8 | (simp only [Int.reduceToNat] at ho8; rw [← Ny402.out] at ho8)); have HO404 := Aside0.mk (Kd.R_lower ho8 (below_size beT_)); replace BK401 := kB_ BK401 hb; replace HB := hB_ hb; clear hb ho8))
      go_loopg [8] k (fun kq v8 w' => ∃ (x7_1 : List Int) (x8_1 : Int), v8 = .int .i64 x8_1 ∧ Aside0 (ferryref05_peek.l0 kq a1 a2 x7_1 x8_1 l0_0 l0_1 a0_2 l0_3 = some r) ∧ Aside0 (kq ≤ k) ∧ Aside0 (Kd.R (Kd.int .u8) 5 w' w.heap.size (fun _ => True) v403 x7_1) ∧ Aside0 (w'.heap[gb401]? = some (.cells #[(.slice A0_0 l0_0.length c0_0), (.slice A0_1 l0_1.length c0_1), .int .u64 a0_2, (.slice A0_3 l0_3.length c0_3)] 29 (0, 0))) ∧ Aside0 (Below w.heap.size w w'))
      case atStart => exact ⟨(y402), (0), r1_, H', ⟨Nat.le_refl _⟩, ⟨rT_ HO404.out⟩, ⟨bT_ BK401.out⟩, ⟨beT_⟩⟩
      case round =>
        clear H'
        try clear p2
        try clear c4
        try clear c4b0
        try clear c4b1
        try clear c5
        try clear c5b0
        try clear c5b1
        obtain ⟨x7_1, x8_1, rfl, HA, HK1, HO_7, BK401, HB⟩ := hrel
        cases gk with
        | zero => exact absurd HA.out (by simp [ferryref05_peek.l0])
        | succ k1 =>
          have H := HA.out
          clear HA
          simp only [ferryref05_peek.l0] at H
          by_cases c9 : x8_1 < a2
          · rw [if_pos c9] at H
            have c9b0 : decide (x8_1 < a2) = true := decide_eq_true c9
            clear c9
            replace H := Option.bind_eq_some_iff.mp H
            obtain ⟨t405, A100, H⟩ := H
            have A10 := Aside0.mk A100
            clear A100
            replace H := Option.bind_eq_some_iff.mp H
            obtain ⟨t406, A110, H⟩ := H
            have A11 := Aside0.mk A110
            clear A110
            by_cases c12 : 0 ≤ x8_1
            · rw [if_pos c12] at H
              have c12b0 : decide (0 ≤ x8_1) = true := decide_eq_true c12
              clear c12
              by_cases c13 : x8_1 < (x7_1.length : Int)
              · rw [if_pos c13] at H
                have c13b0 : decide (x8_1 < (x7_1.length : Int)) = true := decide_eq_true c13
                clear c13
                obtain ⟨y407, hy407⟩ : ∃ y_ : List Int, y_ = (x7_1.set (x8_1 : Int).toNat t406) := ⟨_, rfl⟩
                replace H : (ferryref05_peek.l0 k1 a1 a2 y407 (wrap64 (x8_1 + 1)) l0_0 l0_1 a0_2 l0_3) = some r := by first | (rw [hy407]; with_reducible exact H) | (have H2_ := (Option.bind_some _ _).symm.trans H; rw [hy407]; with_reducible exact H2_) | (have H2_ := (Option.bind_some _ _).symm.trans H; with_reducible exact H2_) | with_reducible exact H | (rw [hy407]; exact H) | exact H
                have Ny407 := Aside0.mk hy407
                clear hy407
                have H' := Aside0.mk H
                clear H
                try go_wp2
                replace HO_7 := Aside0.mk (Kd.R_drew HO_7.out)
                replace BK401 := Aside0.mk (blk_drew BK401.out)
                replace HB := Aside0.mk (below_drew1 HB.out)
                refine start_ (n := 13) (S := fun w' => w'.cell? ⟨gb401, 0, none⟩ = some (.slice A0_0 l0_0.length c0_0) ∧ w'.cell? ⟨gb401, 1, none⟩ = some (.slice A0_1 l0_1.length c0_1) ∧ w'.cell? ⟨gb401, 2, none⟩ = some (.int .u64 a0_2) ∧ w'.cell? ⟨gb401, 3, none⟩ = some (.slice A0_3 l0_3.length c0_3)) (ds := [12]) (mb_ 13 0) (by kernel_rfl) rfl rfl ⟨(blk_cell BK401.out 0).trans rfl, (blk_cell BK401.out 1).trans rfl, (blk_cell BK401.out 2).trans rfl, (blk_cell BK401.out 3).trans rfl⟩ (fun hHeld => ?_); refine with_tabW ferryref05_peek.tab5 ferryref05_peek.bits5 (fun HT_ HW_ => ?_)
                generalize wr.drew = w15 at HO_7 BK401 HB hHeld ⊢
                refine pS_ 0 16 (mb_ 13 1) ?_
                refine pS_ 1 17 (mb_ 13 3) ?_
                refine pS_ 2 18 (mb_ 13 7) ?_
                refine pS_ 5 21 (mb_ 13 39) ?_
                refine pS_ 7 23 (mb_ 13 167) ?_
                refine pS_ 8 24 (mb_ 13 423) ?_
                refine t4S_ 3 19 (mb_ 13 431) ?_
                refine t4S_ 4 20 (mb_ 13 447) ?_
                refine one_ (i := 6) (N := some 22) (mb_ 13 511) rfl rfl (one_of HT_.out (by kernel_rfl)) (by decide) (fun K hK => ?_)
                refine goes_ Try.func14 (by kernel_rfl) rfl #[.agg #[.slice A0_0 l0_0.length c0_0, .slice A0_1 l0_1.length c0_1, .int .u64 a0_2, .slice A0_3 l0_3.length c0_3], .int .u32 a1] (by rfl) rfl rfl aT_ ?_
                with_reducible refine (ferryref04_Place.calls _ _ l0_0 _ _ l0_1 a0_2 _ _ l0_3 a1 t405 _ ?side1 ?side2 ?side3 ?side4 ?side5 ?side6 A10.out).mono ?_
                (case side1 => exact cT_ (Kd.C_below HR0_0.out HB.out))
                (case side2 => exact HC0_0.out)
                (case side3 => exact cT_ (Kd.C_below HR0_1.out HB.out))
                (case side4 => exact HC0_1.out)
                (case side5 => exact cT_ (Kd.C_below HR0_3.out HB.out))
                (case side6 => exact HC0_3.out)
                rintro e w16 ⟨rfl, hb⟩
                refine ⟨_, rfl, ?_⟩
                replace HO_7 := rB_ HO_7.out hb
                replace BK401 := kB_ BK401 hb
                replace HB := hB_ hb
                (try clear hb)
                (try clear hb2)
                (try clear hk)
                (try clear hi)
                refine hK.out _ _ ⟨(blk_cell BK401.out 0).trans rfl, (blk_cell BK401.out 1).trans rfl, (blk_cell BK401.out 2).trans rfl, (blk_cell BK401.out 3).trans rfl⟩ (fun hHeld => ?_)
                clear hK K
                refine nS_ ?_
                refine pS_ 9 25 (mb_ 13 1023) ?_
                refine one_ (i := 10) (N := some 26) (mb_ 13 2047) rfl rfl (one_of HT_.out (by kernel_rfl)) (by decide) (fun K hK => ?_)
                refine goes_ Try.func15 (by kernel_rfl) rfl #[.agg #[.slice A0_0 l0_0.length c0_0, .slice A0_1 l0_1.length c0_1], .int .u64 (IntKind.u64.wrap (t405 + (IntKind.u64.wrap (x8_1))))] (by rfl) rfl rfl aT_ ?_
                with_reducible refine (ferryref03_Peek.calls k1 _ _ l0_0 _ _ l0_1 (IntKind.u64.wrap (t405 + (IntKind.u64.wrap (x8_1)))) t406 _ ?side1 ?side2 ?side3 ?side4 A11.out).mono ?_
                (case side1 => exact cT_ (Kd.C_below HR0_0.out HB.out))
                (case side2 => exact HC0_0.out)
                (case side3 => exact cT_ (Kd.C_below HR0_1.out HB.out))
                (case side4 => exact HC0_1.out)
                rintro e w17 ⟨rfl, hb⟩
                refine ⟨_, rfl, ?_⟩
                replace HO_7 := rB_ HO_7.out hb
                replace BK401 := kB_ BK401 hb
                replace HB := hB_ hb
                (try clear hb)
                (try clear hb2)
                (try clear hk)
                (try clear hi)
                have p14 : 0 ≤ (x8_1 : Int) := dT_
                have q14 : (x8_1 : Int) < ((x7_1.length : Int) : Int) := dT_
                obtain ⟨go14, co14, eo14, gb14, gl14, cl14, HG14⟩ := Kd.R_form HO_7.out (by omega)
                (first | cases eo14 | (injection eo14 with ea_ en_ ec_; (first | subst ea_ | (injection ea_ with ea_; subst ea_)); subst ec_; clear en_))
                have GB14 := Aside0.mk gb14
                have GG14 := Aside0.mk HG14
                clear gb14 gl14 HG14
                obtain ⟨hx14_0, hf14_0⟩ := Kd.R_celln 0 HO_7.out (x8_1 : Int) p14 q14
                replace p14 := eq_true p14
                replace q14 := eq_true q14
                have HP18 := Kd.R_putn HO_7.out (x8_1 : Int) t406
                rw [← Ny407.out] at HP18
                have HQ18 := Aside0.mk HP18
                clear HP18
                refine hK.out _ _ ⟨(blk_cell BK401.out 0).trans rfl, (blk_cell BK401.out 1).trans rfl, (blk_cell BK401.out 2).trans rfl, (blk_cell BK401.out 3).trans rfl⟩ (fun hHeld => ?_)
                clear hK K
                refine nS_ ?_
                refine pS_ 11 27 (mb_ 13 4095) ?_
                refine last_ (i := 12) (N := none) (mb_ 13 8191) rfl rfl (one_of HT_.out (by kernel_rfl)) (by decide) (fun K hK => ?_)
                refine skip_ (w1 := ?_) (by rfl) rfl ?_ ?_
                rotate_left
                · go_simp
                  rfl
                refine hK.out _ _ ?_
                clear hK K
                refine done_ (done_of HT_.out (by kernel_rfl)) ?_
                try go_wp2
                go_roundg k1
                case measure => have := HK1.out; omega
                case rel => exact ⟨(y407), (wrap64 (x8_1 + 1)), r1_, H', ⟨by have := HK1.out; omega⟩, ⟨rT_ HQ18.out⟩, ⟨by (with_reducible repeat (first | refine blk_drewN ?_ _ | refine blk_drew ?_ | refine blk_alloc ?_ _)); refine blk_far ?_ (by have h_ := Kd.R_ne HO_7.out BK401.out (by decide); intro e_; exact h_ (by rw [e_]; rfl)) _; (with_reducible repeat (first | refine blk_drewN ?_ _ | refine blk_drew ?_ | refine blk_alloc ?_ _)); exact BK401.out⟩, ⟨by repeat (first | (with_reducible first | exact HB.out | apply below_alloc | apply pw_below_drewN | apply below_drew1 | refine below_set ?_ GB14.out | refine below_set ?_ GE401.out) | exact HB.out)⟩⟩
              rw [if_neg c13] at H
              exact absurd H (by simp)
            rw [if_neg c12] at H
            exact absurd H (by simp)
          rw [if_neg c9] at H
          have c9b0 : decide (x8_1 < a2) = false := decide_eq_false c9
          clear c9
          obtain rfl := Option.some.inj H
          have hcv19 := own_string (P := Try.prog) Try.underlying93 Try.underlying5 Try.underlying9 (Kd.own_of_R HO_7.out)
          go_wp2
          go_ret
          exact ⟨r3_, beT_⟩
    rw [if_neg c5] at H
    exact absurd H (by simp)
  rw [if_neg c4] at H
  exact absurd H (by simp)

end Go.Proofs.Ytgkjdpdmmlalcaa.F
end
section
namespace Go.Proofs.Ytgkjdpdmmlalcaa.F
open Go.RowKit Go.Proofs.YtgkjdpdmmlalcaaW.PrintWords Go.Proofs.YtgkjdpdmmlalcaaW.PrintLast Go.Proofs.YtgkjdpdmmlalcaaW.PrintMore
attribute [local go_sem] max2_int min2_int max_two min_two max_three min_three max_four min_four
attribute [local go_sem] cell_twice
set_option linter.unusedVariables false
set_option linter.unusedSimpArgs false

def ferryref05_Bytes.f (k : Nat) (l0_0 : List (S83)) (l0_1 : List (S88)) (a0_2 : Int) (l0_3 : List (S41)) (a1 : Int) (a2 : Int) : Option (ByteArray × Int × Int) := if a2 > 65536 then (some ((⟨#[]⟩ : ByteArray), 1, 0)) else ((ferryref05_ask.f k l0_0 l0_1 a0_2 l0_3 a1 (wrap64 (a2)) 1).bind fun bt410 => (if bt410.1 = 0 then ((ferryref05_peek.f k l0_0 l0_1 a0_2 l0_3 a1 (wrap64 (a2))).bind fun t413 => (some (t413, bt410.1, bt410.2))) else (some ((⟨#[]⟩ : ByteArray), bt410.1, bt410.2))))
def ferryref05_Bytes.T6 : Bool × List (List Nat × List Nat) := (true, [([], []), ([], []), ([], []), ([2], [2]), ([0, 1, 3], [0, 1, 3]), ([], []), ([4, 4, 0, 1, 2, 3, 4], [4]), ([5, 6, 0, 1, 2, 3, 4, 5, 6], [5])])
def ferryref05_Bytes.B6 : List Nat := [0, 0, 0, 4, 15, 0, 31, 127]
theorem ferryref05_Bytes.tab6 : rtab .any (opsOf Try.f23 6) = ferryref05_Bytes.T6 := by kernel_rfl
theorem ferryref05_Bytes.bits6 : waitsOk ferryref05_Bytes.T6.2 ferryref05_Bytes.B6 = true := by kernel_rfl
set_option maxHeartbeats 8000000 in
set_option maxRecDepth 100000 in
theorem ferryref05_Bytes.calls (k : Nat) (A0_0 : Option Addr) (c0_0 : Nat) (l0_0 : List (S83)) (A0_1 : Option Addr) (c0_1 : Nat) (l0_1 : List (S88)) (a0_2 : Int) (A0_3 : Option Addr) (c0_3 : Nat) (l0_3 : List (S41)) (a1 : Int) (a2 : Int) (r1 : ByteArray) (r2 : Int) (r3 : Int) (w : World) (hr0_0 : Kd.C k83 w A0_0 l0_0.length l0_0) (hc0_0 : l0_0.length ≤ c0_0) (hr0_1 : Kd.C k88 w A0_1 l0_1.length l0_1) (hc0_1 : l0_1.length ≤ c0_1) (hr0_3 : Kd.C k41 w A0_3 l0_3.length l0_3) (hc0_3 : l0_3.length ≤ c0_3) (h : ferryref05_Bytes.f k l0_0 l0_1 a0_2 l0_3 a1 a2 = some (r1, r2, r3)) :
    Calls Try.prog 23 #[.agg #[.slice A0_0 l0_0.length c0_0, .slice A0_1 l0_1.length c0_1, .int .u64 a0_2, .slice A0_3 l0_3.length c0_3], .int .u32 a1, .int .u32 a2] w fun e w' => e = .returned (.tuple #[.string r1, .agg #[.int .i64 r2, .int .u64 r3]]) ∧ Below w.heap.size w w' := by
  have hu29 := Try.underlying29
  have hu34 := Try.underlying34
  have HR0_0 := Aside0.mk hr0_0
  have HC0_0 := Aside0.mk hc0_0
  clear hr0_0 hc0_0
  have HR0_1 := Aside0.mk hr0_1
  have HC0_1 := Aside0.mk hc0_1
  clear hr0_1 hc0_1
  have HR0_3 := Aside0.mk hr0_3
  have HC0_3 := Aside0.mk hc0_3
  clear hr0_3 hc0_3
  have HB := Aside0.mk (Below.refl w.heap.size w)
  have H : (if a2 > 65536 then (some ((⟨#[]⟩ : ByteArray), 1, 0)) else ((ferryref05_ask.f k l0_0 l0_1 a0_2 l0_3 a1 (wrap64 (a2)) 1).bind fun bt410 => (if bt410.1 = 0 then ((ferryref05_peek.f k l0_0 l0_1 a0_2 l0_3 a1 (wrap64 (a2))).bind fun t413 => (some (t413, bt410.1, bt410.2))) else (some ((⟨#[]⟩ : ByteArray), bt410.1, bt410.2))))) = some (r1, r2, r3) := h
  clear h
  by_cases c4 : a2 > 65536
  · rw [if_pos c4] at H
    have c4b0 : decide (65536 < a2) = true := decide_eq_true c4
    clear c4
    simp only [Option.some.injEq, Prod.mk.injEq] at H
    obtain ⟨rfl, rfl, rfl⟩ := H
    go_enter Try.func23, Try.ntmps23
    go_wp2_with (first | ((with_reducible refine gate_dst (N := 3) rfl ?_); refine bE_ 3 #[.slice A0_0 l0_0.length c0_0, .slice A0_1 l0_1.length c0_1, .int .u64 a0_2, .slice A0_3 l0_3.length c0_3] 29 ?_; intro gb408 hg w5 hbox hb; have BK408 := Aside0.mk hbox; have GW408 := geT_ w.heap.size hg; have GE408 := geT_ w.heap.size hg; replace HB := hB_ hb; clear hb hbox hg) | ((with_reducible refine gate_dst (N := 7) rfl ?_); refine bE_ 7 #[.int .i64 0, .int .u64 0] 34 ?_; intro gb409 hg w6 hbox hb; have BK409 := Aside0.mk hbox; have GW409 := geT_ w.heap.size hg; have GE409 := geT_ w.heap.size hg; have NB408_409 := nlT_ BK408.out hg; have NB409_408 := ngT_ BK408.out hg; replace BK408 := kB_ BK408 hb; replace HB := hB_ hb; clear hb hbox hg; have hnb7 := NB409_408.out; have hnc7 := NB408_409.out; obtain ⟨hcz8_0, hcz8_1, hfz8_0, hfz8_1⟩ := b2_ BK409.out))
    refine bodyPost_ret (results_tc rfl _ _ gb409 34 #[.int .i64 1, .int .u64 0] (0, 0) _ rfl (kP_ BK409.out) Try.underlying34 rfl (by kernel_rfl)) rfl ?_
    exact ⟨r3_, beT_⟩
  rw [if_neg c4] at H
  have c4b0 : decide (65536 < a2) = false := decide_eq_false c4
  clear c4
  replace H := Option.bind_eq_some_iff.mp H
  obtain ⟨⟨t410, t411⟩, A90, H⟩ := H
  have A9 := Aside0.mk A90
  clear A90
  by_cases c10 : t410 = 0
  · rw [if_pos c10] at H
    have c10b0 : (t410 == 0) = true := beq_iff_eq.mpr c10
    have c10b1 : (t410 != 0) = false := bne_eq_false_iff_eq.mpr c10
    clear c10
    replace H := Option.bind_eq_some_iff.mp H
    obtain ⟨t413, A110, H⟩ := H
    have A11 := Aside0.mk A110
    clear A110
    simp only [Option.some.injEq, Prod.mk.injEq] at H
    obtain ⟨rfl, rfl, rfl⟩ := H
    go_enter Try.func23, Try.ntmps23
    try go_wp2_with (first | ((with_reducible refine gate_dst (N := 3) rfl ?_); refine bE_ 3 #[.slice A0_0 l0_0.length c0_0, .slice A0_1 l0_1.length c0_1, .int .u64 a0_2, .slice A0_3 l0_3.length c0_3] 29 ?_; intro gb408 hg w12 hbox hb; have BK408 := Aside0.mk hbox; have GW408 := geT_ w.heap.size hg; have GE408 := geT_ w.heap.size hg; replace HB := hB_ hb; clear hb hbox hg) | ((with_reducible refine gate_dst (N := 7) rfl ?_); refine bE_ 7 #[.int .i64 0, .int .u64 0] 34 ?_; intro gb409 hg w13 hbox hb; have BK409 := Aside0.mk hbox; have GW409 := geT_ w.heap.size hg; have GE409 := geT_ w.heap.size hg; have NB408_409 := nlT_ BK408.out hg; have NB409_408 := ngT_ BK408.out hg; replace BK408 := kB_ BK408 hb; replace HB := hB_ hb; clear hb hbox hg; have hnb14 := NB408_409.out; have hnc14 := NB409_408.out; obtain ⟨hcz15_0, hcz15_1, hcz15_2, hcz15_3, hfz15_0, hfz15_1, hfz15_2, hfz15_3⟩ := b4_ BK408.out) | ((with_reducible refine gate_callee (f := 54) rfl ?_); refine gL_ (some 16) Try.func54 #[.agg #[.slice A0_0 l0_0.length c0_0, .slice A0_1 l0_1.length c0_1, .int .u64 a0_2, .slice A0_3 l0_3.length c0_3], .int .u32 a1, .int .i64 (wrap64 (a2)), .int .i64 1] ?_; (with_reducible refine (ferryref05_ask.calls k _ _ l0_0 _ _ l0_1 a0_2 _ _ l0_3 a1 (wrap64 (a2)) 1 t410 t411 _ ?side1 ?side2 ?side3 ?side4 ?side5 ?side6 A9.out).mono ?_); (case side1 => exact cT_ (Kd.C_below HR0_0.out HB.out)); (case side2 => exact HC0_0.out); (case side3 => exact cT_ (Kd.C_below HR0_1.out HB.out)); (case side4 => exact HC0_1.out); (case side5 => exact cT_ (Kd.C_below HR0_3.out HB.out)); (case side6 => exact HC0_3.out); rintro e w16 ⟨rfl, hb⟩; refine ⟨_, rfl, ?_⟩; replace BK408 := kB_ BK408 hb; replace BK409 := kB_ BK409 hb; replace HB := hB_ hb; (try clear hb); (try clear hb2); (try clear hk); (try clear hi)) | ((with_reducible refine gate_dst (N := 8) rfl ?_); refine bE_ 8 #[.int .i64 0, .int .u64 0] 34 ?_; intro gb412 hg w17 hbox hb; have BK412 := Aside0.mk hbox; have GW412 := geT_ w.heap.size hg; have GE412 := geT_ w.heap.size hg; have NB408_412 := nlT_ BK408.out hg; have NB412_408 := ngT_ BK408.out hg; have NB409_412 := nlT_ BK409.out hg; have NB412_409 := ngT_ BK409.out hg; replace BK408 := kB_ BK408 hb; replace BK409 := kB_ BK409 hb; replace HB := hB_ hb; clear hb hbox hg; have hnb18 := NB412_408.out; have hnc18 := NB408_412.out; have hnb19 := NB412_409.out; have hnc19 := NB409_412.out; obtain ⟨hcz20_0, hcz20_1, hfz20_0, hfz20_1⟩ := b2_ BK412.out))
    have n0_ : Aside0 (((w17.setCell ⟨gb412, 0, none⟩ (.int .i64 t410)).setCell ⟨gb412, 1, none⟩ (.int .u64 t411)).heap[gb408]? = some (.cells #[.slice A0_0 l0_0.length c0_0, .slice A0_1 l0_1.length c0_1, .int .u64 a0_2, .slice A0_3 l0_3.length c0_3] 29 (0, 0))) := ⟨bfT_ BK408.out⟩
    have n1_ : Aside0 (((w17.setCell ⟨gb412, 0, none⟩ (.int .i64 t410)).setCell ⟨gb412, 1, none⟩ (.int .u64 t411)).heap[gb409]? = some (.cells #[.int .i64 0, .int .u64 0] 34 (0, 0))) := ⟨bfT_ BK409.out⟩
    have n2_ : Aside0 (((w17.setCell ⟨gb412, 0, none⟩ (.int .i64 t410)).setCell ⟨gb412, 1, none⟩ (.int .u64 t411)).heap[gb412]? = some (.cells #[.int .i64 t410, .int .u64 t411] 34 (0, 0))) := ⟨kP_ BK412.out⟩
    have n3_ : Aside0 (Below w.heap.size w ((w17.setCell ⟨gb412, 0, none⟩ (.int .i64 t410)).setCell ⟨gb412, 1, none⟩ (.int .u64 t411))) := ⟨beT_⟩
    (try clear BK408)
    (try clear BK409)
    (try clear BK412)
    (try clear HB)
    generalize ((w17.setCell ⟨gb412, 0, none⟩ (.int .i64 t410)).setCell ⟨gb412, 1, none⟩ (.int .u64 t411)) = w21 at n0_ n1_ n2_ n3_ ⊢
    have BK408 := n0_
    have BK409 := n1_
    have BK412 := n2_
    have HB := n3_
    clear n0_ n1_ n2_ n3_
    replace BK408 := Aside0.mk (blk_drew BK408.out)
    replace BK409 := Aside0.mk (blk_drew BK409.out)
    replace BK412 := Aside0.mk (blk_drew BK412.out)
    replace HB := Aside0.mk (below_drew1 HB.out)
    refine start_ (n := 8) (S := fun w' => w'.cell? ⟨gb408, 0, none⟩ = some (.slice A0_0 l0_0.length c0_0) ∧ w'.cell? ⟨gb408, 1, none⟩ = some (.slice A0_1 l0_1.length c0_1) ∧ w'.cell? ⟨gb408, 2, none⟩ = some (.int .u64 a0_2) ∧ w'.cell? ⟨gb408, 3, none⟩ = some (.slice A0_3 l0_3.length c0_3) ∧ w'.cell? ⟨gb412, 0, none⟩ = some (.int .i64 t410) ∧ w'.cell? ⟨gb412, 1, none⟩ = some (.int .u64 t411)) (ds := []) (mb_ 8 0) (by kernel_rfl) rfl rfl ⟨(blk_cell BK408.out 0).trans rfl, (blk_cell BK408.out 1).trans rfl, (blk_cell BK408.out 2).trans rfl, (blk_cell BK408.out 3).trans rfl, (blk_cell BK412.out 0).trans rfl, (blk_cell BK412.out 1).trans rfl⟩ (fun hHeld => ?_); refine with_tabW ferryref05_Bytes.tab6 ferryref05_Bytes.bits6 (fun HT_ HW_ => ?_)
    generalize w21.drew = w22 at BK408 BK409 BK412 HB hHeld ⊢
    refine pS_ 1 22 (mb_ 8 2) ?_
    refine pS_ 2 23 (mb_ 8 6) ?_
    refine pS_ 3 24 (mb_ 8 14) ?_
    refine t6S_ 0 21 (mb_ 8 15) ?_
    refine t6S_ 5 26 (mb_ 8 47) ?_
    refine one_ (i := 4) (N := some 25) (mb_ 8 63) rfl rfl (one_of HT_.out (by kernel_rfl)) (by decide) (fun K hK => ?_)
    refine goes_ Try.func55 (by kernel_rfl) rfl #[.agg #[.slice A0_0 l0_0.length c0_0, .slice A0_1 l0_1.length c0_1, .int .u64 a0_2, .slice A0_3 l0_3.length c0_3], .int .u32 a1, .int .i64 (wrap64 (a2))] (by rfl) rfl rfl aT_ ?_
    with_reducible refine (ferryref05_peek.calls k _ _ l0_0 _ _ l0_1 a0_2 _ _ l0_3 a1 (wrap64 (a2)) t413 _ ?side1 ?side2 ?side3 ?side4 ?side5 ?side6 A11.out).mono ?_
    (case side1 => exact cT_ (Kd.C_below HR0_0.out HB.out))
    (case side2 => exact HC0_0.out)
    (case side3 => exact cT_ (Kd.C_below HR0_1.out HB.out))
    (case side4 => exact HC0_1.out)
    (case side5 => exact cT_ (Kd.C_below HR0_3.out HB.out))
    (case side6 => exact HC0_3.out)
    rintro e w23 ⟨rfl, hb⟩
    refine ⟨_, rfl, ?_⟩
    replace BK408 := kB_ BK408 hb
    replace BK409 := kB_ BK409 hb
    replace BK412 := kB_ BK412 hb
    replace HB := hB_ hb
    (try clear hb)
    (try clear hb2)
    (try clear hk)
    (try clear hi)
    refine hK.out _ _ ⟨(blk_cell BK408.out 0).trans rfl, (blk_cell BK408.out 1).trans rfl, (blk_cell BK408.out 2).trans rfl, (blk_cell BK408.out 3).trans rfl, (blk_cell BK412.out 0).trans rfl, (blk_cell BK412.out 1).trans rfl⟩ (fun hHeld => ?_)
    clear hK K
    refine nS_ ?_
    refine pS_ 6 6 (mb_ 8 127) ?_
    refine one_ (i := 7) (N := none) (mb_ 8 255) rfl rfl (one_of HT_.out (by kernel_rfl)) (by decide) (fun K hK => ?_)
    have hs24 : w23.cell? ⟨gb409, 0, none⟩ = some (.int .i64 0) := (blk_cell BK409.out 0).trans rfl
    have hfs24 := blk_frozen BK409.out 0
    have hns24_0 := NB408_409.out
    have hns24_2 := NB412_409.out
    have hms24_0 := NB409_408.out
    have hms24_2 := NB409_412.out
    have hs25 : w23.cell? ⟨gb409, 1, none⟩ = some (.int .u64 0) := (blk_cell BK409.out 1).trans rfl
    have hfs25 := blk_frozen BK409.out 1
    have hns25_0 := NB408_409.out
    have hns25_2 := NB412_409.out
    have hms25_0 := NB409_408.out
    have hms25_2 := NB409_412.out
    refine skip_ (w1 := ?_) (by rfl) rfl ?_ ?_
    rotate_left
    · go_simp
      rfl
    refine hK.out _ _ ⟨((cell_far (p := ⟨gb409, _, none⟩) NB408_409.out _).trans (((cell_far (p := ⟨gb409, _, none⟩) NB408_409.out _).trans (hHeld.1)))), ((cell_far (p := ⟨gb409, _, none⟩) NB408_409.out _).trans (((cell_far (p := ⟨gb409, _, none⟩) NB408_409.out _).trans (hHeld.2.1)))), ((cell_far (p := ⟨gb409, _, none⟩) NB408_409.out _).trans (((cell_far (p := ⟨gb409, _, none⟩) NB408_409.out _).trans (hHeld.2.2.1)))), ((cell_far (p := ⟨gb409, _, none⟩) NB408_409.out _).trans (((cell_far (p := ⟨gb409, _, none⟩) NB408_409.out _).trans (hHeld.2.2.2.1)))), ((cell_far (p := ⟨gb409, _, none⟩) NB412_409.out _).trans (((cell_far (p := ⟨gb409, _, none⟩) NB412_409.out _).trans (hHeld.2.2.2.2.1)))), ((cell_far (p := ⟨gb409, _, none⟩) NB412_409.out _).trans (((cell_far (p := ⟨gb409, _, none⟩) NB412_409.out _).trans (hHeld.2.2.2.2.2))))⟩ (fun hHeld => ?_)
    clear hK K
    refine done_ (done_of HT_.out (by kernel_rfl)) ?_
    try go_wp2
    refine bodyPost_ret (results_tc rfl _ _ gb409 34 #[.int .i64 t410, .int .u64 t411] (0, 0) _ rfl (kP_ BK409.out) Try.underlying34 rfl (by kernel_rfl)) rfl ?_
    exact ⟨r3_, beT_⟩
  rw [if_neg c10] at H
  have c10b0 : (t410 == 0) = false := beq_eq_false_iff_ne.mpr c10
  have c10b1 : (t410 != 0) = true := bne_iff_ne.mpr c10
  simp only [Option.some.injEq, Prod.mk.injEq] at H
  obtain ⟨rfl, rfl, rfl⟩ := H
  go_enter Try.func23, Try.ntmps23
  try go_wp2_with (first | ((with_reducible refine gate_dst (N := 3) rfl ?_); refine bE_ 3 #[.slice A0_0 l0_0.length c0_0, .slice A0_1 l0_1.length c0_1, .int .u64 a0_2, .slice A0_3 l0_3.length c0_3] 29 ?_; intro gb408 hg w26 hbox hb; have BK408 := Aside0.mk hbox; have GW408 := geT_ w.heap.size hg; have GE408 := geT_ w.heap.size hg; replace HB := hB_ hb; clear hb hbox hg) | ((with_reducible refine gate_dst (N := 7) rfl ?_); refine bE_ 7 #[.int .i64 0, .int .u64 0] 34 ?_; intro gb409 hg w27 hbox hb; have BK409 := Aside0.mk hbox; have GW409 := geT_ w.heap.size hg; have GE409 := geT_ w.heap.size hg; have NB408_409 := nlT_ BK408.out hg; have NB409_408 := ngT_ BK408.out hg; replace BK408 := kB_ BK408 hb; replace HB := hB_ hb; clear hb hbox hg; have hnb28 := NB408_409.out; have hnc28 := NB409_408.out; obtain ⟨hcz29_0, hcz29_1, hcz29_2, hcz29_3, hfz29_0, hfz29_1, hfz29_2, hfz29_3⟩ := b4_ BK408.out) | ((with_reducible refine gate_callee (f := 54) rfl ?_); refine gL_ (some 16) Try.func54 #[.agg #[.slice A0_0 l0_0.length c0_0, .slice A0_1 l0_1.length c0_1, .int .u64 a0_2, .slice A0_3 l0_3.length c0_3], .int .u32 a1, .int .i64 (wrap64 (a2)), .int .i64 1] ?_; (with_reducible refine (ferryref05_ask.calls k _ _ l0_0 _ _ l0_1 a0_2 _ _ l0_3 a1 (wrap64 (a2)) 1 t410 t411 _ ?side1 ?side2 ?side3 ?side4 ?side5 ?side6 A9.out).mono ?_); (case side1 => exact cT_ (Kd.C_below HR0_0.out HB.out)); (case side2 => exact HC0_0.out); (case side3 => exact cT_ (Kd.C_below HR0_1.out HB.out)); (case side4 => exact HC0_1.out); (case side5 => exact cT_ (Kd.C_below HR0_3.out HB.out)); (case side6 => exact HC0_3.out); rintro e w30 ⟨rfl, hb⟩; refine ⟨_, rfl, ?_⟩; replace BK408 := kB_ BK408 hb; replace BK409 := kB_ BK409 hb; replace HB := hB_ hb; (try clear hb); (try clear hb2); (try clear hk); (try clear hi)) | ((with_reducible refine gate_dst (N := 8) rfl ?_); refine bE_ 8 #[.int .i64 0, .int .u64 0] 34 ?_; intro gb412 hg w31 hbox hb; have BK412 := Aside0.mk hbox; have GW412 := geT_ w.heap.size hg; have GE412 := geT_ w.heap.size hg; have NB408_412 := nlT_ BK408.out hg; have NB412_408 := ngT_ BK408.out hg; have NB409_412 := nlT_ BK409.out hg; have NB412_409 := ngT_ BK409.out hg; replace BK408 := kB_ BK408 hb; replace BK409 := kB_ BK409 hb; replace HB := hB_ hb; clear hb hbox hg; have hnb32 := NB412_408.out; have hnc32 := NB408_412.out; have hnb33 := NB412_409.out; have hnc33 := NB409_412.out; obtain ⟨hcz34_0, hcz34_1, hfz34_0, hfz34_1⟩ := b2_ BK412.out))
  have n0_ : Aside0 (((w31.setCell ⟨gb412, 0, none⟩ (.int .i64 t410)).setCell ⟨gb412, 1, none⟩ (.int .u64 t411)).heap[gb408]? = some (.cells #[.slice A0_0 l0_0.length c0_0, .slice A0_1 l0_1.length c0_1, .int .u64 a0_2, .slice A0_3 l0_3.length c0_3] 29 (0, 0))) := ⟨bfT_ BK408.out⟩
  have n1_ : Aside0 (((w31.setCell ⟨gb412, 0, none⟩ (.int .i64 t410)).setCell ⟨gb412, 1, none⟩ (.int .u64 t411)).heap[gb409]? = some (.cells #[.int .i64 0, .int .u64 0] 34 (0, 0))) := ⟨bfT_ BK409.out⟩
  have n2_ : Aside0 (((w31.setCell ⟨gb412, 0, none⟩ (.int .i64 t410)).setCell ⟨gb412, 1, none⟩ (.int .u64 t411)).heap[gb412]? = some (.cells #[.int .i64 t410, .int .u64 t411] 34 (0, 0))) := ⟨kP_ BK412.out⟩
  have n3_ : Aside0 (Below w.heap.size w ((w31.setCell ⟨gb412, 0, none⟩ (.int .i64 t410)).setCell ⟨gb412, 1, none⟩ (.int .u64 t411))) := ⟨beT_⟩
  (try clear BK408)
  (try clear BK409)
  (try clear BK412)
  (try clear HB)
  generalize ((w31.setCell ⟨gb412, 0, none⟩ (.int .i64 t410)).setCell ⟨gb412, 1, none⟩ (.int .u64 t411)) = w35 at n0_ n1_ n2_ n3_ ⊢
  have BK408 := n0_
  have BK409 := n1_
  have BK412 := n2_
  have HB := n3_
  clear n0_ n1_ n2_ n3_
  replace BK408 := Aside0.mk (blk_drew BK408.out)
  replace BK409 := Aside0.mk (blk_drew BK409.out)
  replace BK412 := Aside0.mk (blk_drew BK412.out)
  replace HB := Aside0.mk (below_drew1 HB.out)
  refine start_ (n := 3) (S := fun w' => w'.cell? ⟨gb412, 0, none⟩ = some (.int .i64 t410) ∧ w'.cell? ⟨gb412, 1, none⟩ = some (.int .u64 t411)) (ds := []) (mb_ 3 0) (by kernel_rfl) rfl rfl ⟨(blk_cell BK412.out 0).trans rfl, (blk_cell BK412.out 1).trans rfl⟩ (fun hHeld => ?_)
  generalize w35.drew = w36 at BK408 BK409 BK412 HB hHeld ⊢
  refine pure_ (i := 1) (N := some 6) (v := ?_) (a' := ?_) (mb_ 3 2) rfl rfl (by kernel_rfl) (fun _ _ _ h => h) (Or.inl ⟨by rfl, ?_⟩) ?_ ?_
  rotate_left
  · intro w'
    go_simp
    with_reducible rfl
  rotate_left
  · simp only [Act.put, List.setIfInBounds_toArray, List.set_cons_zero, List.set_cons_succ, i64_w, i32_w]
    rfl
  refine take_ (i := 0) (N := some 20) (v := ?_) (a' := ?_) (mb_ 3 3) rfl rfl (by kernel_rfl) (fun _ _ _ h => h) (Or.inl ⟨by rfl, ?_⟩) hHeld ?_ ?_
  rotate_left
  · rintro w' ⟨s0, s1⟩
    go_simp
    with_reducible rfl
  rotate_left
  · simp only [Act.put, List.setIfInBounds_toArray, List.set_cons_zero, List.set_cons_succ, i64_w, i32_w]
    rfl
  refine one_ (i := 2) (N := none) (mb_ 3 7) rfl rfl (by kernel_rfl) (by decide) (fun K hK => ?_)
  have hs37 : w36.cell? ⟨gb409, 0, none⟩ = some (.int .i64 0) := (blk_cell BK409.out 0).trans rfl
  have hfs37 := blk_frozen BK409.out 0
  have hns37_0 := NB408_409.out
  have hns37_2 := NB412_409.out
  have hms37_0 := NB409_408.out
  have hms37_2 := NB409_412.out
  have hs38 : w36.cell? ⟨gb409, 1, none⟩ = some (.int .u64 0) := (blk_cell BK409.out 1).trans rfl
  have hfs38 := blk_frozen BK409.out 1
  have hns38_0 := NB408_409.out
  have hns38_2 := NB412_409.out
  have hms38_0 := NB409_408.out
  have hms38_2 := NB409_412.out
  refine skip_ (w1 := ?_) (by rfl) rfl ?_ ?_
  rotate_left
  · go_simp
    rfl
  refine hK.out _ _ ⟨((cell_far (p := ⟨gb409, _, none⟩) NB412_409.out _).trans (((cell_far (p := ⟨gb409, _, none⟩) NB412_409.out _).trans (hHeld.1)))), ((cell_far (p := ⟨gb409, _, none⟩) NB412_409.out _).trans (((cell_far (p := ⟨gb409, _, none⟩) NB412_409.out _).trans (hHeld.2))))⟩ (fun hHeld => ?_)
  clear hK K
  refine done_ (by kernel_rfl) ?_
  try go_wp2
  refine bodyPost_ret (results_tc rfl _ _ gb409 34 #[.int .i64 t410, .int .u64 t411] (0, 0) _ rfl (kP_ BK409.out) Try.underlying34 rfl (by kernel_rfl)) rfl ?_
  exact ⟨r3_, beT_⟩

end Go.Proofs.Ytgkjdpdmmlalcaa.F
end
section
namespace Go.Proofs.Ytgkjdpdmmlalcaa.F
open Go.RowKit Go.Proofs.YtgkjdpdmmlalcaaW.PrintWords Go.Proofs.YtgkjdpdmmlalcaaW.PrintLast Go.Proofs.YtgkjdpdmmlalcaaW.PrintMore
attribute [local go_sem] max2_int min2_int max_two min_two max_three min_three max_four min_four
set_option linter.unusedVariables false
set_option linter.unusedSimpArgs false

def ferryref05_sized.f (a0 : Int) : Option (Bool) := if a0 = 1 then (some true) else (if a0 = 2 then (some true) else (if a0 = 4 then (some true) else (some (a0 == 8))))
set_option maxHeartbeats 8000000 in
set_option maxRecDepth 100000 in
theorem ferryref05_sized.calls (a0 : Int) (r : Bool) (w : World) (h : ferryref05_sized.f a0 = some r) :
    Calls Try.prog 52 #[.int .i64 a0] w fun e w' => e = .returned (.bool r) ∧ Drawn0 w w' := by
  have H : (if a0 = 1 then (some true) else (if a0 = 2 then (some true) else (if a0 = 4 then (some true) else (some (a0 == 8))))) = some r := h
  clear h
  by_cases c2 : a0 = 1
  · rw [if_pos c2] at H
    have c2b0 : (a0 == 1) = true := beq_iff_eq.mpr c2
    have c2b1 : (a0 != 1) = false := bne_eq_false_iff_eq.mpr c2
    clear c2
    obtain rfl := Option.some.inj H
    go_enter Try.func52, Try.ntmps52
    go_wp2
    go_ret
    exact ⟨by first | rfl | (simp; done) | (simp [*]; done), by repeat (first | exact Drawn0.refl _ | apply Drawn0.step)⟩
  rw [if_neg c2] at H
  have c2b0 : (a0 == 1) = false := beq_eq_false_iff_ne.mpr c2
  have c2b1 : (a0 != 1) = true := bne_iff_ne.mpr c2
  by_cases c3 : a0 = 2
  · rw [if_pos c3] at H
    have c3b0 : (a0 == 2) = true := beq_iff_eq.mpr c3
    have c3b1 : (a0 != 2) = false := bne_eq_false_iff_eq.mpr c3
    clear c3
    obtain rfl := Option.some.inj H
    go_enter Try.func52, Try.ntmps52
    go_wp2
    go_ret
    exact ⟨by first | rfl | (simp; done) | (simp [*]; done), by repeat (first | exact Drawn0.refl _ | apply Drawn0.step)⟩
  rw [if_neg c3] at H
  have c3b0 : (a0 == 2) = false := beq_eq_false_iff_ne.mpr c3
  have c3b1 : (a0 != 2) = true := bne_iff_ne.mpr c3
  by_cases c4 : a0 = 4
  · rw [if_pos c4] at H
    have c4b0 : (a0 == 4) = true := beq_iff_eq.mpr c4
    have c4b1 : (a0 != 4) = false := bne_eq_false_iff_eq.mpr c4
    clear c4
    obtain rfl := Option.some.inj H
    go_enter Try.func52, Try.ntmps52
    go_wp2
    go_ret
    exact ⟨by first | rfl | (simp; done) | (simp [*]; done), by repeat (first | exact Drawn0.refl _ | apply Drawn0.step)⟩
  rw [if_neg c4] at H
  have c4b0 : (a0 == 4) = false := beq_eq_false_iff_ne.mpr c4
  have c4b1 : (a0 != 4) = true := bne_iff_ne.mpr c4
  obtain rfl := Option.some.inj H
  go_enter Try.func52, Try.ntmps52
  go_wp2
  go_ret
  exact ⟨by first | rfl | (simp; done) | (simp [*]; done), by repeat (first | exact Drawn0.refl _ | apply Drawn0.step)⟩

end Go.Proofs.Ytgkjdpdmmlalcaa.F
end
section
namespace Go.Proofs.Ytgkjdpdmmlalcaa.F
open Go.RowKit Go.Proofs.YtgkjdpdmmlalcaaW.PrintWords Go.Proofs.YtgkjdpdmmlalcaaW.PrintLast Go.Proofs.YtgkjdpdmmlalcaaW.PrintMore
attribute [local go_sem] max2_int min2_int max_two min_two max_three min_three max_four min_four
set_option linter.unusedVariables false
set_option linter.unusedSimpArgs false

def ferryref01_Be.l0 : Nat → ByteArray → Int → Int → Option (Int)
  | 0, _, _, _ => none
  | k + 1, x0, x3, x4 => if x4 < (x0.size : Int) then (if 0 ≤ x4 then (ferryref01_Be.l0 k x0 (IntKind.u64.wrap ((IntKind.u64.wrap (x3 * 256)) + (IntKind.u64.wrap (bt x0 x4)))) (wrap64 (x4 + 1))) else (none)) else (some x3)
def ferryref01_Be.f (k : Nat) (a0 : ByteArray) : Option (Int) := if (a0.size : Int) > 8 then (some 0) else (ferryref01_Be.l0 k a0 0 0)
set_option maxHeartbeats 8000000 in
set_option maxRecDepth 100000 in
theorem ferryref01_Be.calls (k : Nat) (a0 : ByteArray) (r : Int) (w : World) (h : ferryref01_Be.f k a0 = some r) :
    Calls Try.prog 56 #[.string a0] w fun e w' => e = .returned (.int .u64 r) ∧ Drawn0 w w' := by
  have H : (if (a0.size : Int) > 8 then (some 0) else (ferryref01_Be.l0 k a0 0 0)) = some r := h
  clear h
  by_cases c2 : (a0.size : Int) > 8
  · rw [if_pos c2] at H
    have c2b0 : decide (8 < (a0.size : Int)) = true := decide_eq_true c2
    have c2b1 : decide (8 < a0.size) = true := decide_eq_true (by omega)
    clear c2
    obtain rfl := Option.some.inj H
    go_enter Try.func56, Try.ntmps56
    go_wp2
    go_ret
    exact ⟨by first | rfl | (simp; done) | (simp [*]; done), by repeat (first | exact Drawn0.refl _ | apply Drawn0.step)⟩
  rw [if_neg c2] at H
  have c2b0 : decide (8 < (a0.size : Int)) = false := decide_eq_false c2
  have c2b1 : decide (8 < a0.size) = false := decide_eq_false (by omega)
  clear c2
  have H' := Aside0.mk H
  clear H
  go_enter Try.func56, Try.ntmps56
  go_wp2
  go_loopg [3, 4] k (fun kq v3 v4 w' => ∃ (x3_1 : Int) (x4_1 : Int), v3 = .int .u64 x3_1 ∧ v4 = .int .i64 x4_1 ∧ Aside0 (ferryref01_Be.l0 kq a0 x3_1 x4_1 = some r) ∧ Aside0 (kq ≤ k) ∧ Drawn0 w w')
  case atStart => exact ⟨(0), (0), r1_, r1_, H', ⟨Nat.le_refl _⟩, by repeat (first | exact Drawn0.refl _ | apply Drawn0.step)⟩
  case round =>
    clear H'
    try clear c2
    try clear c2b0
    try clear c2b1
    try clear p2
    obtain ⟨x3_1, x4_1, rfl, rfl, HA, HK1, ⟨m1, rfl⟩⟩ := hrel
    cases gk with
    | zero => exact absurd HA.out (by simp [ferryref01_Be.l0])
    | succ k1 =>
      have H := HA.out
      clear HA
      simp only [ferryref01_Be.l0] at H
      by_cases c3 : x4_1 < (a0.size : Int)
      · rw [if_pos c3] at H
        have c3b0 : decide (x4_1 < (a0.size : Int)) = true := decide_eq_true c3
        clear c3
        by_cases c4 : 0 ≤ x4_1
        · rw [if_pos c4] at H
          have c4b0 : decide (0 ≤ x4_1) = true := decide_eq_true c4
          clear c4
          have H' := Aside0.mk H
          clear H
          have p5 : 0 ≤ (x4_1 : Int) := dT_
          have q5 : x4_1 < (a0.size : Int) := dT_
          have hx5 := bt_at a0 x4_1
          replace p5 := eq_true p5
          replace q5 := eq_true q5
          go_wp2
          go_roundg k1
          case measure => have := HK1.out; omega
          case rel => exact ⟨(IntKind.u64.wrap ((IntKind.u64.wrap (x3_1 * 256)) + (IntKind.u64.wrap (bt a0 x4_1)))), (wrap64 (x4_1 + 1)), r1_, r1_, H', ⟨by have := HK1.out; omega⟩, by repeat (first | exact Drawn0.refl _ | apply Drawn0.step)⟩
        rw [if_neg c4] at H
        exact absurd H (by simp)
      rw [if_neg c3] at H
      have c3b0 : decide (x4_1 < (a0.size : Int)) = false := decide_eq_false c3
      clear c3
      obtain rfl := Option.some.inj H
      go_wp2
      go_ret
      exact ⟨by first | rfl | (simp; done) | (simp [*]; done), by repeat (first | exact Drawn0.refl _ | apply Drawn0.step)⟩

end Go.Proofs.Ytgkjdpdmmlalcaa.F
end
section
namespace Go.Proofs.Ytgkjdpdmmlalcaa.F
open Go.RowKit Go.Proofs.YtgkjdpdmmlalcaaW.PrintWords Go.Proofs.YtgkjdpdmmlalcaaW.PrintLast Go.Proofs.YtgkjdpdmmlalcaaW.PrintMore
attribute [local go_sem] max2_int min2_int max_two min_two max_three min_three max_four min_four
attribute [local go_sem] u32w
attribute [local go_sem] cell_twice
set_option linter.unusedVariables false
set_option linter.unusedSimpArgs false

def ferryref05_Load.f (k : Nat) (l0_0 : List (S83)) (l0_1 : List (S88)) (a0_2 : Int) (l0_3 : List (S41)) (a1 : Int) (a2 : Int) : Option (Int × Int × Int) := (ferryref05_sized.f a2).bind fun t416 => (if t416 = true then ((ferryref05_Bytes.f k l0_0 l0_1 a0_2 l0_3 a1 ((a2) % 4294967296)).bind fun bt417 => ((ferryref01_Be.f k bt417.1).bind fun t421 => (some (t421, bt417.2.1, bt417.2.2)))) else (some (0, 0, 0)))
set_option maxHeartbeats 8000000 in
set_option maxRecDepth 100000 in
theorem ferryref05_Load.calls (k : Nat) (A0_0 : Option Addr) (c0_0 : Nat) (l0_0 : List (S83)) (A0_1 : Option Addr) (c0_1 : Nat) (l0_1 : List (S88)) (a0_2 : Int) (A0_3 : Option Addr) (c0_3 : Nat) (l0_3 : List (S41)) (a1 : Int) (a2 : Int) (r1 : Int) (r2 : Int) (r3 : Int) (w : World) (hr0_0 : Kd.C k83 w A0_0 l0_0.length l0_0) (hc0_0 : l0_0.length ≤ c0_0) (hr0_1 : Kd.C k88 w A0_1 l0_1.length l0_1) (hc0_1 : l0_1.length ≤ c0_1) (hr0_3 : Kd.C k41 w A0_3 l0_3.length l0_3) (hc0_3 : l0_3.length ≤ c0_3) (h : ferryref05_Load.f k l0_0 l0_1 a0_2 l0_3 a1 a2 = some (r1, r2, r3)) :
    Calls Try.prog 24 #[.agg #[.slice A0_0 l0_0.length c0_0, .slice A0_1 l0_1.length c0_1, .int .u64 a0_2, .slice A0_3 l0_3.length c0_3], .int .u32 a1, .int .i64 a2] w fun e w' => e = .returned (.tuple #[.int .u64 r1, .agg #[.int .i64 r2, .int .u64 r3]]) ∧ Below w.heap.size w w' := by
  have hu29 := Try.underlying29
  have hu34 := Try.underlying34
  have HR0_0 := Aside0.mk hr0_0
  have HC0_0 := Aside0.mk hc0_0
  clear hr0_0 hc0_0
  have HR0_1 := Aside0.mk hr0_1
  have HC0_1 := Aside0.mk hc0_1
  clear hr0_1 hc0_1
  have HR0_3 := Aside0.mk hr0_3
  have HC0_3 := Aside0.mk hc0_3
  clear hr0_3 hc0_3
  have HB := Aside0.mk (Below.refl w.heap.size w)
  have H : ((ferryref05_sized.f a2).bind fun t416 => (if t416 = true then ((ferryref05_Bytes.f k l0_0 l0_1 a0_2 l0_3 a1 ((a2) % 4294967296)).bind fun bt417 => ((ferryref01_Be.f k bt417.1).bind fun t421 => (some (t421, bt417.2.1, bt417.2.2)))) else (some (0, 0, 0)))) = some (r1, r2, r3) := h
  clear h
  replace H := Option.bind_eq_some_iff.mp H
  obtain ⟨t416, A40, H⟩ := H
  have A4 := Aside0.mk A40
  clear A40
  by_cases c5 : t416 = true
  · subst c5
    replace H := hP_ H
    replace H := Option.bind_eq_some_iff.mp H
    obtain ⟨⟨t417, t418, t419⟩, A60, H⟩ := H
    have A6 := Aside0.mk A60
    clear A60
    replace H := Option.bind_eq_some_iff.mp H
    obtain ⟨t421, A70, H⟩ := H
    have A7 := Aside0.mk A70
    clear A70
    simp only [Option.some.injEq, Prod.mk.injEq] at H
    obtain ⟨rfl, rfl, rfl⟩ := H
    go_enter Try.func24, Try.ntmps24
    try go_wp2_with (first | ((with_reducible refine gate_dst (N := 3) rfl ?_); refine bE_ 3 #[.slice A0_0 l0_0.length c0_0, .slice A0_1 l0_1.length c0_1, .int .u64 a0_2, .slice A0_3 l0_3.length c0_3] 29 ?_; intro gb414 hg w8 hbox hb; have BK414 := Aside0.mk hbox; have GW414 := geT_ w.heap.size hg; have GE414 := geT_ w.heap.size hg; replace HB := hB_ hb; clear hb hbox hg) | ((with_reducible refine gate_dst (N := 7) rfl ?_); refine bE_ 7 #[.int .i64 0, .int .u64 0] 34 ?_; intro gb415 hg w9 hbox hb; have BK415 := Aside0.mk hbox; have GW415 := geT_ w.heap.size hg; have GE415 := geT_ w.heap.size hg; have NB414_415 := nlT_ BK414.out hg; have NB415_414 := ngT_ BK414.out hg; replace BK414 := kB_ BK414 hb; replace HB := hB_ hb; clear hb hbox hg) | ((with_reducible refine gate_callee (f := 52) rfl ?_); refine gL_ (some 11) Try.func52 #[.int .i64 a2] ?_; (with_reducible refine (ferryref05_sized.calls a2 true _ A4.out).mono ?_); rintro e w' ⟨rfl, ⟨nd, rfl⟩⟩; refine ⟨_, rfl, ?_⟩; (try (rw [drewN_self w9]; generalize hq_ : World.drewN w9 _ = w9; replace BK414 : Aside0 (w9.heap[gb414]? = some (.cells #[.slice A0_0 l0_0.length c0_0, .slice A0_1 l0_1.length c0_1, .int .u64 a0_2, .slice A0_3 l0_3.length c0_3] 29 (0, 0))) := ⟨by rw [← hq_]; exact (bT_ BK414.out)⟩; replace BK415 : Aside0 (w9.heap[gb415]? = some (.cells #[.int .i64 0, .int .u64 0] 34 (0, 0))) := ⟨by rw [← hq_]; exact (bT_ BK415.out)⟩; replace HB : Aside0 (Below w.heap.size w w9) := ⟨by rw [← hq_]; exact beT_⟩; clear hq_)); have hnb10 := NB414_415.out; have hnc10 := NB415_414.out; obtain ⟨hcz11_0, hcz11_1, hcz11_2, hcz11_3, hfz11_0, hfz11_1, hfz11_2, hfz11_3⟩ := b4_ BK414.out) | ((with_reducible refine gate_callee (f := 23) rfl ?_); refine gL_ (some 19) Try.func23 #[.agg #[.slice A0_0 l0_0.length c0_0, .slice A0_1 l0_1.length c0_1, .int .u64 a0_2, .slice A0_3 l0_3.length c0_3], .int .u32 a1, .int .u32 ((a2) % 4294967296)] ?_; (with_reducible refine (ferryref05_Bytes.calls k _ _ l0_0 _ _ l0_1 a0_2 _ _ l0_3 a1 ((a2) % 4294967296) t417 t418 t419 _ ?side1 ?side2 ?side3 ?side4 ?side5 ?side6 A6.out).mono ?_); (case side1 => exact cT_ (Kd.C_below HR0_0.out HB.out)); (case side2 => exact HC0_0.out); (case side3 => exact cT_ (Kd.C_below HR0_1.out HB.out)); (case side4 => exact HC0_1.out); (case side5 => exact cT_ (Kd.C_below HR0_3.out HB.out)); (case side6 => exact HC0_3.out); rintro e w12 ⟨rfl, hb⟩; refine ⟨_, rfl, ?_⟩; replace BK414 := kB_ BK414 hb; replace BK415 := kB_ BK415 hb; replace HB := hB_ hb; (try clear hb); (try clear hb2); (try clear hk); (try clear hi)) | ((with_reducible refine gate_dst (N := 9) rfl ?_); refine bE_ 9 #[.int .i64 0, .int .u64 0] 34 ?_; intro gb420 hg w13 hbox hb; have BK420 := Aside0.mk hbox; have GW420 := geT_ w.heap.size hg; have GE420 := geT_ w.heap.size hg; have NB414_420 := nlT_ BK414.out hg; have NB420_414 := ngT_ BK414.out hg; have NB415_420 := nlT_ BK415.out hg; have NB420_415 := ngT_ BK415.out hg; replace BK414 := kB_ BK414 hb; replace BK415 := kB_ BK415 hb; replace HB := hB_ hb; clear hb hbox hg; have hnb14 := NB420_414.out; have hnc14 := NB414_420.out; have hnb15 := NB420_415.out; have hnc15 := NB415_420.out; obtain ⟨hcz16_0, hcz16_1, hfz16_0, hfz16_1⟩ := b2_ BK420.out))
    have n0_ : Aside0 (((w13.setCell ⟨gb420, 0, none⟩ (.int .i64 t418)).setCell ⟨gb420, 1, none⟩ (.int .u64 t419)).heap[gb414]? = some (.cells #[.slice A0_0 l0_0.length c0_0, .slice A0_1 l0_1.length c0_1, .int .u64 a0_2, .slice A0_3 l0_3.length c0_3] 29 (0, 0))) := ⟨bfT_ BK414.out⟩
    have n1_ : Aside0 (((w13.setCell ⟨gb420, 0, none⟩ (.int .i64 t418)).setCell ⟨gb420, 1, none⟩ (.int .u64 t419)).heap[gb415]? = some (.cells #[.int .i64 0, .int .u64 0] 34 (0, 0))) := ⟨bfT_ BK415.out⟩
    have n2_ : Aside0 (((w13.setCell ⟨gb420, 0, none⟩ (.int .i64 t418)).setCell ⟨gb420, 1, none⟩ (.int .u64 t419)).heap[gb420]? = some (.cells #[.int .i64 t418, .int .u64 t419] 34 (0, 0))) := ⟨kP_ BK420.out⟩
    have n3_ : Aside0 (Below w.heap.size w ((w13.setCell ⟨gb420, 0, none⟩ (.int .i64 t418)).setCell ⟨gb420, 1, none⟩ (.int .u64 t419))) := ⟨beT_⟩
    (try clear BK414)
    (try clear BK415)
    (try clear BK420)
    (try clear HB)
    generalize ((w13.setCell ⟨gb420, 0, none⟩ (.int .i64 t418)).setCell ⟨gb420, 1, none⟩ (.int .u64 t419)) = w17 at n0_ n1_ n2_ n3_ ⊢
    have BK414 := n0_
    have BK415 := n1_
    have BK420 := n2_
    have HB := n3_
    clear n0_ n1_ n2_ n3_
    replace BK414 := Aside0.mk (blk_drew BK414.out)
    replace BK415 := Aside0.mk (blk_drew BK415.out)
    replace BK420 := Aside0.mk (blk_drew BK420.out)
    replace HB := Aside0.mk (below_drew1 HB.out)
    refine start_ (n := 5) (S := fun w' => w'.cell? ⟨gb420, 0, none⟩ = some (.int .i64 t418) ∧ w'.cell? ⟨gb420, 1, none⟩ = some (.int .u64 t419)) (ds := []) (mb_ 5 0) (by kernel_rfl) rfl rfl ⟨(blk_cell BK420.out 0).trans rfl, (blk_cell BK420.out 1).trans rfl⟩ (fun hHeld => ?_)
    generalize w17.drew = w18 at BK414 BK415 BK420 HB hHeld ⊢
    refine pure_ (i := 0) (N := some 22) (v := ?_) (a' := ?_) (mb_ 5 1) rfl rfl (by kernel_rfl) (fun _ _ _ h => h) (Or.inl ⟨by rfl, ?_⟩) ?_ ?_
    rotate_left
    · intro w'
      go_simp
      with_reducible rfl
    rotate_left
    · simp only [Act.put, List.setIfInBounds_toArray, List.set_cons_zero, List.set_cons_succ, i64_w, i32_w]
      rfl
    refine take_ (i := 2) (N := some 24) (v := ?_) (a' := ?_) (mb_ 5 5) rfl rfl (by kernel_rfl) (fun _ _ _ h => h) (Or.inl ⟨by rfl, ?_⟩) hHeld ?_ ?_
    rotate_left
    · rintro w' ⟨s0, s1⟩
      go_simp
      with_reducible rfl
    rotate_left
    · simp only [Act.put, List.setIfInBounds_toArray, List.set_cons_zero, List.set_cons_succ, i64_w, i32_w]
      rfl
    refine one_ (i := 1) (N := some 23) (mb_ 5 7) rfl rfl (by kernel_rfl) (by decide) (fun K hK => ?_)
    refine goes_ Try.func56 (by kernel_rfl) rfl #[.string t417] (by rfl) rfl rfl aT_ ?_
    with_reducible refine (ferryref01_Be.calls k t417 t421 _ A7.out).mono ?_
    rintro e w' ⟨rfl, ⟨nd, rfl⟩⟩
    refine ⟨_, rfl, ?_⟩
    refine hK.out _ _ ⟨(blk_cell BK420.out 0).trans rfl, (blk_cell BK420.out 1).trans rfl⟩ (fun hHeld => ?_)
    clear hK K
    refine nS_ ?_
    refine pure_ (i := 3) (N := some 6) (v := ?_) (a' := ?_) (mb_ 5 15) rfl rfl (by kernel_rfl) (fun _ _ _ h => h) (Or.inl ⟨by rfl, ?_⟩) ?_ ?_
    rotate_left
    · intro w'
      go_simp
      with_reducible rfl
    rotate_left
    · simp only [Act.put, List.setIfInBounds_toArray, List.set_cons_zero, List.set_cons_succ, i64_w, i32_w]
      rfl
    refine one_ (i := 4) (N := none) (mb_ 5 31) rfl rfl (by kernel_rfl) (by decide) (fun K hK => ?_)
    have hs19 : w18.cell? ⟨gb415, 0, none⟩ = some (.int .i64 0) := (blk_cell BK415.out 0).trans rfl
    have hfs19 := blk_frozen BK415.out 0
    have hns19_0 := NB414_415.out
    have hns19_2 := NB420_415.out
    have hms19_0 := NB415_414.out
    have hms19_2 := NB415_420.out
    have hs20 : w18.cell? ⟨gb415, 1, none⟩ = some (.int .u64 0) := (blk_cell BK415.out 1).trans rfl
    have hfs20 := blk_frozen BK415.out 1
    have hns20_0 := NB414_415.out
    have hns20_2 := NB420_415.out
    have hms20_0 := NB415_414.out
    have hms20_2 := NB415_420.out
    refine skip_ (w1 := ?_) (by rfl) rfl ?_ ?_
    rotate_left
    · go_simp
      rfl
    refine hK.out _ _ ⟨((cell_far (p := ⟨gb415, _, none⟩) NB420_415.out _).trans (((cell_far (p := ⟨gb415, _, none⟩) NB420_415.out _).trans (hHeld.1)))), ((cell_far (p := ⟨gb415, _, none⟩) NB420_415.out _).trans (((cell_far (p := ⟨gb415, _, none⟩) NB420_415.out _).trans (hHeld.2))))⟩ (fun hHeld => ?_)
    clear hK K
    refine done_ (by kernel_rfl) ?_
    try go_wp2
    refine bodyPost_ret (results_tc rfl _ _ gb415 34 #[.int .i64 t418, .int .u64 t419] (0, 0) _ rfl (kP_ BK415.out) Try.underlying34 rfl (by kernel_rfl)) rfl ?_
    exact ⟨r3_, beT_⟩
  replace c5 := Bool.eq_false_iff.mpr c5
  subst c5
  replace H := hN_ H
  simp only [Option.some.injEq, Prod.mk.injEq] at H
  obtain ⟨rfl, rfl, rfl⟩ := H
  go_enter Try.func24, Try.ntmps24
  go_wp2_with (first | ((with_reducible refine gate_dst (N := 3) rfl ?_); refine bE_ 3 #[.slice A0_0 l0_0.length c0_0, .slice A0_1 l0_1.length c0_1, .int .u64 a0_2, .slice A0_3 l0_3.length c0_3] 29 ?_; intro gb414 hg w21 hbox hb; have BK414 := Aside0.mk hbox; have GW414 := geT_ w.heap.size hg; have GE414 := geT_ w.heap.size hg; replace HB := hB_ hb; clear hb hbox hg) | ((with_reducible refine gate_dst (N := 7) rfl ?_); refine bE_ 7 #[.int .i64 0, .int .u64 0] 34 ?_; intro gb415 hg w22 hbox hb; have BK415 := Aside0.mk hbox; have GW415 := geT_ w.heap.size hg; have GE415 := geT_ w.heap.size hg; have NB414_415 := nlT_ BK414.out hg; have NB415_414 := ngT_ BK414.out hg; replace BK414 := kB_ BK414 hb; replace HB := hB_ hb; clear hb hbox hg) | ((with_reducible refine gate_callee (f := 52) rfl ?_); refine gL_ (some 11) Try.func52 #[.int .i64 a2] ?_; (with_reducible refine (ferryref05_sized.calls a2 false _ A4.out).mono ?_); rintro e w' ⟨rfl, ⟨nd, rfl⟩⟩; refine ⟨_, rfl, ?_⟩; (try (rw [drewN_self w22]; generalize hq_ : World.drewN w22 _ = w22; replace BK414 : Aside0 (w22.heap[gb414]? = some (.cells #[.slice A0_0 l0_0.length c0_0, .slice A0_1 l0_1.length c0_1, .int .u64 a0_2, .slice A0_3 l0_3.length c0_3] 29 (0, 0))) := ⟨by rw [← hq_]; exact (bT_ BK414.out)⟩; replace BK415 : Aside0 (w22.heap[gb415]? = some (.cells #[.int .i64 0, .int .u64 0] 34 (0, 0))) := ⟨by rw [← hq_]; exact (bT_ BK415.out)⟩; replace HB : Aside0 (Below w.heap.size w w22) := ⟨by rw [← hq_]; exact beT_⟩; clear hq_)); have hnb23 := NB415_414.out; have hnc23 := NB414_415.out; obtain ⟨hcz24_0, hcz24_1, hfz24_0, hfz24_1⟩ := b2_ BK415.out))
  refine bodyPost_ret (results_tc rfl _ _ gb415 34 #[.int .i64 0, .int .u64 0] (0, 0) _ rfl (kP_ BK415.out) Try.underlying34 rfl (by kernel_rfl)) rfl ?_
  exact ⟨r3_, beT_⟩

end Go.Proofs.Ytgkjdpdmmlalcaa.F
end
section
namespace Go.Proofs.Ytgkjdpdmmlalcaa.F
open Go.RowKit Go.Proofs.YtgkjdpdmmlalcaaW.PrintWords Go.Proofs.YtgkjdpdmmlalcaaW.PrintLast Go.Proofs.YtgkjdpdmmlalcaaW.PrintMore
attribute [local go_sem] max2_int min2_int max_two min_two max_three min_three max_four min_four
attribute [local go_sem] u32w
attribute [local go_sem] cell_twice
set_option linter.unusedVariables false
set_option linter.unusedSimpArgs false

def gmem_Fetch.f (l0_0 : List (S83)) (l0_1 : List (S88)) (a0_2 : Int) (l0_3 : List (S41)) (a1 : Int) : Option (Int × Int × Int) := (gmem_first.f l0_0 l0_1 a0_2 l0_3 a1 4 4).bind fun bt658 => (if bt658.1 = 0 then ((gmem_read.f l0_0 l0_1 a0_2 l0_3 a1 4).bind fun t661 => ((swap_Be.f t661).bind fun t662 => (some ((t662) % 4294967296, 0, 0)))) else (some (0, bt658.1, bt658.2)))
set_option maxHeartbeats 8000000 in
set_option maxRecDepth 100000 in
theorem gmem_Fetch.calls (A0_0 : Option Addr) (c0_0 : Nat) (l0_0 : List (S83)) (A0_1 : Option Addr) (c0_1 : Nat) (l0_1 : List (S88)) (a0_2 : Int) (A0_3 : Option Addr) (c0_3 : Nat) (l0_3 : List (S41)) (a1 : Int) (r1 : Int) (r2 : Int) (r3 : Int) (w : World) (hr0_0 : Kd.C k83 w A0_0 l0_0.length l0_0) (hc0_0 : l0_0.length ≤ c0_0) (hr0_1 : Kd.C k88 w A0_1 l0_1.length l0_1) (hc0_1 : l0_1.length ≤ c0_1) (hr0_3 : Kd.C k41 w A0_3 l0_3.length l0_3) (hc0_3 : l0_3.length ≤ c0_3) (h : gmem_Fetch.f l0_0 l0_1 a0_2 l0_3 a1 = some (r1, r2, r3)) :
    Calls Try.prog 25 #[.agg #[.slice A0_0 l0_0.length c0_0, .slice A0_1 l0_1.length c0_1, .int .u64 a0_2, .slice A0_3 l0_3.length c0_3], .int .u32 a1] w fun e w' => e = .returned (.tuple #[.int .u32 r1, .agg #[.int .i64 r2, .int .u64 r3]]) ∧ Below w.heap.size w w' := by
  have hu29 := Try.underlying29
  have hu34 := Try.underlying34
  have HR0_0 := Aside0.mk hr0_0
  have HC0_0 := Aside0.mk hc0_0
  clear hr0_0 hc0_0
  have HR0_1 := Aside0.mk hr0_1
  have HC0_1 := Aside0.mk hc0_1
  clear hr0_1 hc0_1
  have HR0_3 := Aside0.mk hr0_3
  have HC0_3 := Aside0.mk hc0_3
  clear hr0_3 hc0_3
  have HB := Aside0.mk (Below.refl w.heap.size w)
  have H : ((gmem_first.f l0_0 l0_1 a0_2 l0_3 a1 4 4).bind fun bt658 => (if bt658.1 = 0 then ((gmem_read.f l0_0 l0_1 a0_2 l0_3 a1 4).bind fun t661 => ((swap_Be.f t661).bind fun t662 => (some ((t662) % 4294967296, 0, 0)))) else (some (0, bt658.1, bt658.2)))) = some (r1, r2, r3) := h
  clear h
  replace H := Option.bind_eq_some_iff.mp H
  obtain ⟨⟨t658, t659⟩, A30, H⟩ := H
  have A3 := Aside0.mk A30
  clear A30
  by_cases c4 : t658 = 0
  · rw [if_pos c4] at H
    have c4b0 : (t658 == 0) = true := beq_iff_eq.mpr c4
    have c4b1 : (t658 != 0) = false := bne_eq_false_iff_eq.mpr c4
    clear c4
    replace H := Option.bind_eq_some_iff.mp H
    obtain ⟨t661, A50, H⟩ := H
    have A5 := Aside0.mk A50
    clear A50
    replace H := Option.bind_eq_some_iff.mp H
    obtain ⟨t662, A60, H⟩ := H
    have A6 := Aside0.mk A60
    clear A60
    simp only [Option.some.injEq, Prod.mk.injEq] at H
    obtain ⟨rfl, rfl, rfl⟩ := H
    go_enter Try.func25, Try.ntmps25
    go_wp2_with (first | ((with_reducible refine gate_dst (N := 2) rfl ?_); refine bE_ 2 #[.slice A0_0 l0_0.length c0_0, .slice A0_1 l0_1.length c0_1, .int .u64 a0_2, .slice A0_3 l0_3.length c0_3] 29 ?_; intro gb656 hg w7 hbox hb; have BK656 := Aside0.mk hbox; have GW656 := geT_ w.heap.size hg; have GE656 := geT_ w.heap.size hg; replace HB := hB_ hb; clear hb hbox hg) | ((with_reducible refine gate_dst (N := 5) rfl ?_); refine bE_ 5 #[.int .i64 0, .int .u64 0] 34 ?_; intro gb657 hg w8 hbox hb; have BK657 := Aside0.mk hbox; have GW657 := geT_ w.heap.size hg; have GE657 := geT_ w.heap.size hg; have NB656_657 := nlT_ BK656.out hg; have NB657_656 := ngT_ BK656.out hg; replace BK656 := kB_ BK656 hb; replace HB := hB_ hb; clear hb hbox hg; have hnb9 := NB656_657.out; have hnc9 := NB657_656.out; obtain ⟨hcz10_0, hcz10_1, hcz10_2, hcz10_3, hfz10_0, hfz10_1, hfz10_2, hfz10_3⟩ := b4_ BK656.out) | ((with_reducible refine gate_callee (f := 41) rfl ?_); refine gL_ (some 9) Try.func41 #[.agg #[.slice A0_0 l0_0.length c0_0, .slice A0_1 l0_1.length c0_1, .int .u64 a0_2, .slice A0_3 l0_3.length c0_3], .int .u32 a1, .int .i64 4, .int .i64 4] ?_; (with_reducible refine (gmem_first.calls _ _ l0_0 _ _ l0_1 a0_2 _ _ l0_3 a1 4 4 t658 t659 _ ?side1 ?side2 ?side3 ?side4 ?side5 ?side6 A3.out).mono ?_); (case side1 => exact cT_ (Kd.C_below HR0_0.out HB.out)); (case side2 => exact HC0_0.out); (case side3 => exact cT_ (Kd.C_below HR0_1.out HB.out)); (case side4 => exact HC0_1.out); (case side5 => exact cT_ (Kd.C_below HR0_3.out HB.out)); (case side6 => exact HC0_3.out); rintro e w11 ⟨rfl, hb⟩; refine ⟨_, rfl, ?_⟩; replace BK656 := kB_ BK656 hb; replace BK657 := kB_ BK657 hb; replace HB := hB_ hb; (try clear hb); (try clear hb2); (try clear hk); (try clear hi)) | ((with_reducible refine gate_dst (N := 6) rfl ?_); refine bE_ 6 #[.int .i64 0, .int .u64 0] 34 ?_; intro gb660 hg w12 hbox hb; have BK660 := Aside0.mk hbox; have GW660 := geT_ w.heap.size hg; have GE660 := geT_ w.heap.size hg; have NB656_660 := nlT_ BK656.out hg; have NB660_656 := ngT_ BK656.out hg; have NB657_660 := nlT_ BK657.out hg; have NB660_657 := ngT_ BK657.out hg; replace BK656 := kB_ BK656 hb; replace BK657 := kB_ BK657 hb; replace HB := hB_ hb; clear hb hbox hg; have hnb13 := NB660_656.out; have hnc13 := NB656_660.out; have hnb14 := NB660_657.out; have hnc14 := NB657_660.out; obtain ⟨hcz15_0, hcz15_1, hfz15_0, hfz15_1⟩ := b2_ BK660.out; obtain ⟨hcz16_0, hcz16_1, hcz16_2, hcz16_3, hfz16_0, hfz16_1, hfz16_2, hfz16_3⟩ := b4_ BK656.out) | ((with_reducible refine gate_callee (f := 42) rfl ?_); refine gL_ (some 16) Try.func42 #[.agg #[.slice A0_0 l0_0.length c0_0, .slice A0_1 l0_1.length c0_1, .int .u64 a0_2, .slice A0_3 l0_3.length c0_3], .int .u32 a1, .int .i64 4] ?_; (with_reducible refine (gmem_read.calls _ _ l0_0 _ _ l0_1 a0_2 _ _ l0_3 a1 4 t661 _ ?side1 ?side2 ?side3 ?side4 ?side5 ?side6 A5.out).mono ?_); (case side1 => exact Kd.C_below HR0_0.out beT_); (case side2 => exact HC0_0.out); (case side3 => exact Kd.C_below HR0_1.out beT_); (case side4 => exact HC0_1.out); (case side5 => exact Kd.C_below HR0_3.out beT_); (case side6 => exact HC0_3.out); rintro e w17 ⟨rfl, hb⟩; refine ⟨_, rfl, ?_⟩; replace BK656 := kB_ BK656 hb; replace BK657 := kB_ BK657 hb; replace BK660 := Aside0.mk (blk_below (g := gb660) (o := .cells #[.int .i64 t658, .int .u64 t659] 34 (0, 0)) (kP_ BK660.out) hb); replace HB := hB_ hb; (try clear hb); (try clear hb2); (try clear hk); (try clear hi)) | ((with_reducible refine gate_callee (f := 49) rfl ?_); refine gL_ (some 17) Try.func49 #[.string t661] ?_; (with_reducible refine (swap_Be.calls t661 t662 _ A6.out).mono ?_); rintro e w18 ⟨rfl, hb⟩; refine ⟨_, rfl, ?_⟩; replace BK656 := kB_ BK656 hb; replace BK657 := kB_ BK657 hb; replace BK660 := kB_ BK660 hb; replace HB := hB_ hb; (try clear hb); (try clear hb2); (try clear hk); (try clear hi); obtain ⟨hcz19_0, hcz19_1, hfz19_0, hfz19_1⟩ := b2_ BK657.out))
    refine bodyPost_ret (results_tc rfl _ _ gb657 34 #[.int .i64 0, .int .u64 0] (0, 0) _ rfl (kP_ BK657.out) Try.underlying34 rfl (by kernel_rfl)) rfl ?_
    exact ⟨r3_, beT_⟩
  rw [if_neg c4] at H
  have c4b0 : (t658 == 0) = false := beq_eq_false_iff_ne.mpr c4
  have c4b1 : (t658 != 0) = true := bne_iff_ne.mpr c4
  simp only [Option.some.injEq, Prod.mk.injEq] at H
  obtain ⟨rfl, rfl, rfl⟩ := H
  go_enter Try.func25, Try.ntmps25
  try go_wp2_with (first | ((with_reducible refine gate_dst (N := 2) rfl ?_); refine bE_ 2 #[.slice A0_0 l0_0.length c0_0, .slice A0_1 l0_1.length c0_1, .int .u64 a0_2, .slice A0_3 l0_3.length c0_3] 29 ?_; intro gb656 hg w20 hbox hb; have BK656 := Aside0.mk hbox; have GW656 := geT_ w.heap.size hg; have GE656 := geT_ w.heap.size hg; replace HB := hB_ hb; clear hb hbox hg) | ((with_reducible refine gate_dst (N := 5) rfl ?_); refine bE_ 5 #[.int .i64 0, .int .u64 0] 34 ?_; intro gb657 hg w21 hbox hb; have BK657 := Aside0.mk hbox; have GW657 := geT_ w.heap.size hg; have GE657 := geT_ w.heap.size hg; have NB656_657 := nlT_ BK656.out hg; have NB657_656 := ngT_ BK656.out hg; replace BK656 := kB_ BK656 hb; replace HB := hB_ hb; clear hb hbox hg; have hnb22 := NB656_657.out; have hnc22 := NB657_656.out; obtain ⟨hcz23_0, hcz23_1, hcz23_2, hcz23_3, hfz23_0, hfz23_1, hfz23_2, hfz23_3⟩ := b4_ BK656.out) | ((with_reducible refine gate_callee (f := 41) rfl ?_); refine gL_ (some 9) Try.func41 #[.agg #[.slice A0_0 l0_0.length c0_0, .slice A0_1 l0_1.length c0_1, .int .u64 a0_2, .slice A0_3 l0_3.length c0_3], .int .u32 a1, .int .i64 4, .int .i64 4] ?_; (with_reducible refine (gmem_first.calls _ _ l0_0 _ _ l0_1 a0_2 _ _ l0_3 a1 4 4 t658 t659 _ ?side1 ?side2 ?side3 ?side4 ?side5 ?side6 A3.out).mono ?_); (case side1 => exact cT_ (Kd.C_below HR0_0.out HB.out)); (case side2 => exact HC0_0.out); (case side3 => exact cT_ (Kd.C_below HR0_1.out HB.out)); (case side4 => exact HC0_1.out); (case side5 => exact cT_ (Kd.C_below HR0_3.out HB.out)); (case side6 => exact HC0_3.out); rintro e w24 ⟨rfl, hb⟩; refine ⟨_, rfl, ?_⟩; replace BK656 := kB_ BK656 hb; replace BK657 := kB_ BK657 hb; replace HB := hB_ hb; (try clear hb); (try clear hb2); (try clear hk); (try clear hi)) | ((with_reducible refine gate_dst (N := 6) rfl ?_); refine bE_ 6 #[.int .i64 0, .int .u64 0] 34 ?_; intro gb660 hg w25 hbox hb; have BK660 := Aside0.mk hbox; have GW660 := geT_ w.heap.size hg; have GE660 := geT_ w.heap.size hg; have NB656_660 := nlT_ BK656.out hg; have NB660_656 := ngT_ BK656.out hg; have NB657_660 := nlT_ BK657.out hg; have NB660_657 := ngT_ BK657.out hg; replace BK656 := kB_ BK656 hb; replace BK657 := kB_ BK657 hb; replace HB := hB_ hb; clear hb hbox hg; have hnb26 := NB660_656.out; have hnc26 := NB656_660.out; have hnb27 := NB660_657.out; have hnc27 := NB657_660.out; obtain ⟨hcz28_0, hcz28_1, hfz28_0, hfz28_1⟩ := b2_ BK660.out))
  have n0_ : Aside0 (((w25.setCell ⟨gb660, 0, none⟩ (.int .i64 t658)).setCell ⟨gb660, 1, none⟩ (.int .u64 t659)).heap[gb656]? = some (.cells #[.slice A0_0 l0_0.length c0_0, .slice A0_1 l0_1.length c0_1, .int .u64 a0_2, .slice A0_3 l0_3.length c0_3] 29 (0, 0))) := ⟨bfT_ BK656.out⟩
  have n1_ : Aside0 (((w25.setCell ⟨gb660, 0, none⟩ (.int .i64 t658)).setCell ⟨gb660, 1, none⟩ (.int .u64 t659)).heap[gb657]? = some (.cells #[.int .i64 0, .int .u64 0] 34 (0, 0))) := ⟨bfT_ BK657.out⟩
  have n2_ : Aside0 (((w25.setCell ⟨gb660, 0, none⟩ (.int .i64 t658)).setCell ⟨gb660, 1, none⟩ (.int .u64 t659)).heap[gb660]? = some (.cells #[.int .i64 t658, .int .u64 t659] 34 (0, 0))) := ⟨kP_ BK660.out⟩
  have n3_ : Aside0 (Below w.heap.size w ((w25.setCell ⟨gb660, 0, none⟩ (.int .i64 t658)).setCell ⟨gb660, 1, none⟩ (.int .u64 t659))) := ⟨beT_⟩
  (try clear BK656)
  (try clear BK657)
  (try clear BK660)
  (try clear HB)
  generalize ((w25.setCell ⟨gb660, 0, none⟩ (.int .i64 t658)).setCell ⟨gb660, 1, none⟩ (.int .u64 t659)) = w29 at n0_ n1_ n2_ n3_ ⊢
  have BK656 := n0_
  have BK657 := n1_
  have BK660 := n2_
  have HB := n3_
  clear n0_ n1_ n2_ n3_
  replace BK656 := Aside0.mk (blk_drew BK656.out)
  replace BK657 := Aside0.mk (blk_drew BK657.out)
  replace BK660 := Aside0.mk (blk_drew BK660.out)
  replace HB := Aside0.mk (below_drew1 HB.out)
  refine start_ (n := 3) (S := fun w' => w'.cell? ⟨gb660, 0, none⟩ = some (.int .i64 t658) ∧ w'.cell? ⟨gb660, 1, none⟩ = some (.int .u64 t659)) (ds := []) (mb_ 3 0) (by kernel_rfl) rfl rfl ⟨(blk_cell BK660.out 0).trans rfl, (blk_cell BK660.out 1).trans rfl⟩ (fun hHeld => ?_)
  generalize w29.drew = w30 at BK656 BK657 BK660 HB hHeld ⊢
  refine pure_ (i := 1) (N := some 4) (v := ?_) (a' := ?_) (mb_ 3 2) rfl rfl (by kernel_rfl) (fun _ _ _ h => h) (Or.inl ⟨by rfl, ?_⟩) ?_ ?_
  rotate_left
  · intro w'
    go_simp
    with_reducible rfl
  rotate_left
  · simp only [Act.put, List.setIfInBounds_toArray, List.set_cons_zero, List.set_cons_succ, i64_w, i32_w]
    rfl
  refine take_ (i := 0) (N := some 13) (v := ?_) (a' := ?_) (mb_ 3 3) rfl rfl (by kernel_rfl) (fun _ _ _ h => h) (Or.inl ⟨by rfl, ?_⟩) hHeld ?_ ?_
  rotate_left
  · rintro w' ⟨s0, s1⟩
    go_simp
    with_reducible rfl
  rotate_left
  · simp only [Act.put, List.setIfInBounds_toArray, List.set_cons_zero, List.set_cons_succ, i64_w, i32_w]
    rfl
  refine one_ (i := 2) (N := none) (mb_ 3 7) rfl rfl (by kernel_rfl) (by decide) (fun K hK => ?_)
  have hs31 : w30.cell? ⟨gb657, 0, none⟩ = some (.int .i64 0) := (blk_cell BK657.out 0).trans rfl
  have hfs31 := blk_frozen BK657.out 0
  have hns31_0 := NB656_657.out
  have hns31_2 := NB660_657.out
  have hms31_0 := NB657_656.out
  have hms31_2 := NB657_660.out
  have hs32 : w30.cell? ⟨gb657, 1, none⟩ = some (.int .u64 0) := (blk_cell BK657.out 1).trans rfl
  have hfs32 := blk_frozen BK657.out 1
  have hns32_0 := NB656_657.out
  have hns32_2 := NB660_657.out
  have hms32_0 := NB657_656.out
  have hms32_2 := NB657_660.out
  refine skip_ (w1 := ?_) (by rfl) rfl ?_ ?_
  rotate_left
  · go_simp
    rfl
  refine hK.out _ _ ⟨((cell_far (p := ⟨gb657, _, none⟩) NB660_657.out _).trans (((cell_far (p := ⟨gb657, _, none⟩) NB660_657.out _).trans (hHeld.1)))), ((cell_far (p := ⟨gb657, _, none⟩) NB660_657.out _).trans (((cell_far (p := ⟨gb657, _, none⟩) NB660_657.out _).trans (hHeld.2))))⟩ (fun hHeld => ?_)
  clear hK K
  refine done_ (by kernel_rfl) ?_
  try go_wp2
  refine bodyPost_ret (results_tc rfl _ _ gb657 34 #[.int .i64 t658, .int .u64 t659] (0, 0) _ rfl (kP_ BK657.out) Try.underlying34 rfl (by kernel_rfl)) rfl ?_
  exact ⟨r3_, beT_⟩

end Go.Proofs.Ytgkjdpdmmlalcaa.F
end
section
namespace Go.Proofs.Ytgkjdpdmmlalcaa.F
open Go.RowKit Go.Proofs.YtgkjdpdmmlalcaaW.PrintWords Go.Proofs.YtgkjdpdmmlalcaaW.PrintLast Go.Proofs.YtgkjdpdmmlalcaaW.PrintMore
attribute [local go_sem] max2_int min2_int max_two min_two max_three min_three max_four min_four
attribute [local go_sem] u32w
attribute [local go_sem] cell_twice
set_option linter.unusedVariables false
set_option linter.unusedSimpArgs false

def ferryref05_Fetch.f (k : Nat) (l0_0 : List (S83)) (l0_1 : List (S88)) (a0_2 : Int) (l0_3 : List (S41)) (a1 : Int) : Option (Int × Int × Int) := (ferryref05_ask.f k l0_0 l0_1 a0_2 l0_3 a1 4 4).bind fun bt426 => (if bt426.1 = 0 then ((ferryref05_peek.f k l0_0 l0_1 a0_2 l0_3 a1 4).bind fun t429 => ((ferryref01_Be.f k t429).bind fun t430 => (some ((t430) % 4294967296, bt426.1, bt426.2)))) else (some (0, bt426.1, bt426.2)))
def ferryref05_Fetch.T4 : Bool × List (List Nat × List Nat) := (true, [([], []), ([], []), ([0, 1], [0, 1]), ([2, 2], [2]), ([3], [3]), ([], []), ([4, 3, 0, 1, 2, 3, 4], [4]), ([5, 6, 0, 1, 2, 3, 4, 5, 6], [5])])
def ferryref05_Fetch.B4 : List Nat := [0, 0, 3, 7, 15, 0, 31, 127]
theorem ferryref05_Fetch.tab4 : rtab .any (opsOf Try.f26 4) = ferryref05_Fetch.T4 := by kernel_rfl
theorem ferryref05_Fetch.bits4 : waitsOk ferryref05_Fetch.T4.2 ferryref05_Fetch.B4 = true := by kernel_rfl
set_option maxHeartbeats 8000000 in
set_option maxRecDepth 100000 in
theorem ferryref05_Fetch.calls (k : Nat) (A0_0 : Option Addr) (c0_0 : Nat) (l0_0 : List (S83)) (A0_1 : Option Addr) (c0_1 : Nat) (l0_1 : List (S88)) (a0_2 : Int) (A0_3 : Option Addr) (c0_3 : Nat) (l0_3 : List (S41)) (a1 : Int) (r1 : Int) (r2 : Int) (r3 : Int) (w : World) (hr0_0 : Kd.C k83 w A0_0 l0_0.length l0_0) (hc0_0 : l0_0.length ≤ c0_0) (hr0_1 : Kd.C k88 w A0_1 l0_1.length l0_1) (hc0_1 : l0_1.length ≤ c0_1) (hr0_3 : Kd.C k41 w A0_3 l0_3.length l0_3) (hc0_3 : l0_3.length ≤ c0_3) (h : ferryref05_Fetch.f k l0_0 l0_1 a0_2 l0_3 a1 = some (r1, r2, r3)) :
    Calls Try.prog 26 #[.agg #[.slice A0_0 l0_0.length c0_0, .slice A0_1 l0_1.length c0_1, .int .u64 a0_2, .slice A0_3 l0_3.length c0_3], .int .u32 a1] w fun e w' => e = .returned (.tuple #[.int .u32 r1, .agg #[.int .i64 r2, .int .u64 r3]]) ∧ Below w.heap.size w w' := by
  have hu29 := Try.underlying29
  have hu34 := Try.underlying34
  have HR0_0 := Aside0.mk hr0_0
  have HC0_0 := Aside0.mk hc0_0
  clear hr0_0 hc0_0
  have HR0_1 := Aside0.mk hr0_1
  have HC0_1 := Aside0.mk hc0_1
  clear hr0_1 hc0_1
  have HR0_3 := Aside0.mk hr0_3
  have HC0_3 := Aside0.mk hc0_3
  clear hr0_3 hc0_3
  have HB := Aside0.mk (Below.refl w.heap.size w)
  have H : ((ferryref05_ask.f k l0_0 l0_1 a0_2 l0_3 a1 4 4).bind fun bt426 => (if bt426.1 = 0 then ((ferryref05_peek.f k l0_0 l0_1 a0_2 l0_3 a1 4).bind fun t429 => ((ferryref01_Be.f k t429).bind fun t430 => (some ((t430) % 4294967296, bt426.1, bt426.2)))) else (some (0, bt426.1, bt426.2)))) = some (r1, r2, r3) := h
  clear h
  replace H := Option.bind_eq_some_iff.mp H
  obtain ⟨⟨t426, t427⟩, A30, H⟩ := H
  have A3 := Aside0.mk A30
  clear A30
  by_cases c4 : t426 = 0
  · rw [if_pos c4] at H
    have c4b0 : (t426 == 0) = true := beq_iff_eq.mpr c4
    have c4b1 : (t426 != 0) = false := bne_eq_false_iff_eq.mpr c4
    clear c4
    replace H := Option.bind_eq_some_iff.mp H
    obtain ⟨t429, A50, H⟩ := H
    have A5 := Aside0.mk A50
    clear A50
    replace H := Option.bind_eq_some_iff.mp H
    obtain ⟨t430, A60, H⟩ := H
    have A6 := Aside0.mk A60
    clear A60
    simp only [Option.some.injEq, Prod.mk.injEq] at H
    obtain ⟨rfl, rfl, rfl⟩ := H
    go_enter Try.func26, Try.ntmps26
    try go_wp2_with (first | ((with_reducible refine gate_dst (N := 2) rfl ?_); refine bE_ 2 #[.slice A0_0 l0_0.length c0_0, .slice A0_1 l0_1.length c0_1, .int .u64 a0_2, .slice A0_3 l0_3.length c0_3] 29 ?_; intro gb424 hg w7 hbox hb; have BK424 := Aside0.mk hbox; have GW424 := geT_ w.heap.size hg; have GE424 := geT_ w.heap.size hg; replace HB := hB_ hb; clear hb hbox hg) | ((with_reducible refine gate_dst (N := 5) rfl ?_); refine bE_ 5 #[.int .i64 0, .int .u64 0] 34 ?_; intro gb425 hg w8 hbox hb; have BK425 := Aside0.mk hbox; have GW425 := geT_ w.heap.size hg; have GE425 := geT_ w.heap.size hg; have NB424_425 := nlT_ BK424.out hg; have NB425_424 := ngT_ BK424.out hg; replace BK424 := kB_ BK424 hb; replace HB := hB_ hb; clear hb hbox hg; have hnb9 := NB424_425.out; have hnc9 := NB425_424.out; obtain ⟨hcz10_0, hcz10_1, hcz10_2, hcz10_3, hfz10_0, hfz10_1, hfz10_2, hfz10_3⟩ := b4_ BK424.out) | ((with_reducible refine gate_callee (f := 54) rfl ?_); refine gL_ (some 9) Try.func54 #[.agg #[.slice A0_0 l0_0.length c0_0, .slice A0_1 l0_1.length c0_1, .int .u64 a0_2, .slice A0_3 l0_3.length c0_3], .int .u32 a1, .int .i64 4, .int .i64 4] ?_; (with_reducible refine (ferryref05_ask.calls k _ _ l0_0 _ _ l0_1 a0_2 _ _ l0_3 a1 4 4 t426 t427 _ ?side1 ?side2 ?side3 ?side4 ?side5 ?side6 A3.out).mono ?_); (case side1 => exact cT_ (Kd.C_below HR0_0.out HB.out)); (case side2 => exact HC0_0.out); (case side3 => exact cT_ (Kd.C_below HR0_1.out HB.out)); (case side4 => exact HC0_1.out); (case side5 => exact cT_ (Kd.C_below HR0_3.out HB.out)); (case side6 => exact HC0_3.out); rintro e w11 ⟨rfl, hb⟩; refine ⟨_, rfl, ?_⟩; replace BK424 := kB_ BK424 hb; replace BK425 := kB_ BK425 hb; replace HB := hB_ hb; (try clear hb); (try clear hb2); (try clear hk); (try clear hi)) | ((with_reducible refine gate_dst (N := 6) rfl ?_); refine bE_ 6 #[.int .i64 0, .int .u64 0] 34 ?_; intro gb428 hg w12 hbox hb; have BK428 := Aside0.mk hbox; have GW428 := geT_ w.heap.size hg; have GE428 := geT_ w.heap.size hg; have NB424_428 := nlT_ BK424.out hg; have NB428_424 := ngT_ BK424.out hg; have NB425_428 := nlT_ BK425.out hg; have NB428_425 := ngT_ BK425.out hg; replace BK424 := kB_ BK424 hb; replace BK425 := kB_ BK425 hb; replace HB := hB_ hb; clear hb hbox hg; have hnb13 := NB428_424.out; have hnc13 := NB424_428.out; have hnb14 := NB428_425.out; have hnc14 := NB425_428.out; obtain ⟨hcz15_0, hcz15_1, hfz15_0, hfz15_1⟩ := b2_ BK428.out))
    have n0_ : Aside0 (((w12.setCell ⟨gb428, 0, none⟩ (.int .i64 t426)).setCell ⟨gb428, 1, none⟩ (.int .u64 t427)).heap[gb424]? = some (.cells #[.slice A0_0 l0_0.length c0_0, .slice A0_1 l0_1.length c0_1, .int .u64 a0_2, .slice A0_3 l0_3.length c0_3] 29 (0, 0))) := ⟨bfT_ BK424.out⟩
    have n1_ : Aside0 (((w12.setCell ⟨gb428, 0, none⟩ (.int .i64 t426)).setCell ⟨gb428, 1, none⟩ (.int .u64 t427)).heap[gb425]? = some (.cells #[.int .i64 0, .int .u64 0] 34 (0, 0))) := ⟨bfT_ BK425.out⟩
    have n2_ : Aside0 (((w12.setCell ⟨gb428, 0, none⟩ (.int .i64 t426)).setCell ⟨gb428, 1, none⟩ (.int .u64 t427)).heap[gb428]? = some (.cells #[.int .i64 t426, .int .u64 t427] 34 (0, 0))) := ⟨kP_ BK428.out⟩
    have n3_ : Aside0 (Below w.heap.size w ((w12.setCell ⟨gb428, 0, none⟩ (.int .i64 t426)).setCell ⟨gb428, 1, none⟩ (.int .u64 t427))) := ⟨beT_⟩
    (try clear BK424)
    (try clear BK425)
    (try clear BK428)
    (try clear HB)
    generalize ((w12.setCell ⟨gb428, 0, none⟩ (.int .i64 t426)).setCell ⟨gb428, 1, none⟩ (.int .u64 t427)) = w16 at n0_ n1_ n2_ n3_ ⊢
    have BK424 := n0_
    have BK425 := n1_
    have BK428 := n2_
    have HB := n3_
    clear n0_ n1_ n2_ n3_
    replace BK424 := Aside0.mk (blk_drew BK424.out)
    replace BK425 := Aside0.mk (blk_drew BK425.out)
    replace BK428 := Aside0.mk (blk_drew BK428.out)
    replace HB := Aside0.mk (below_drew1 HB.out)
    refine start_ (n := 8) (S := fun w' => w'.cell? ⟨gb424, 0, none⟩ = some (.slice A0_0 l0_0.length c0_0) ∧ w'.cell? ⟨gb424, 1, none⟩ = some (.slice A0_1 l0_1.length c0_1) ∧ w'.cell? ⟨gb424, 2, none⟩ = some (.int .u64 a0_2) ∧ w'.cell? ⟨gb424, 3, none⟩ = some (.slice A0_3 l0_3.length c0_3) ∧ w'.cell? ⟨gb428, 0, none⟩ = some (.int .i64 t426) ∧ w'.cell? ⟨gb428, 1, none⟩ = some (.int .u64 t427)) (ds := []) (mb_ 8 0) (by kernel_rfl) rfl rfl ⟨(blk_cell BK424.out 0).trans rfl, (blk_cell BK424.out 1).trans rfl, (blk_cell BK424.out 2).trans rfl, (blk_cell BK424.out 3).trans rfl, (blk_cell BK428.out 0).trans rfl, (blk_cell BK428.out 1).trans rfl⟩ (fun hHeld => ?_); refine with_tabW ferryref05_Fetch.tab4 ferryref05_Fetch.bits4 (fun HT_ HW_ => ?_)
    generalize w16.drew = w17 at BK424 BK425 BK428 HB hHeld ⊢
    refine pS_ 1 15 (mb_ 8 2) ?_
    refine t6S_ 0 14 (mb_ 8 3) ?_
    refine t6S_ 5 19 (mb_ 8 35) ?_
    refine one_ (i := 2) (N := some 16) (mb_ 8 39) rfl rfl (one_of HT_.out (by kernel_rfl)) (by decide) (fun K hK => ?_)
    refine goes_ Try.func55 (by kernel_rfl) rfl #[.agg #[.slice A0_0 l0_0.length c0_0, .slice A0_1 l0_1.length c0_1, .int .u64 a0_2, .slice A0_3 l0_3.length c0_3], .int .u32 a1, .int .i64 4] (by rfl) rfl rfl aT_ ?_
    with_reducible refine (ferryref05_peek.calls k _ _ l0_0 _ _ l0_1 a0_2 _ _ l0_3 a1 4 t429 _ ?side1 ?side2 ?side3 ?side4 ?side5 ?side6 A5.out).mono ?_
    (case side1 => exact cT_ (Kd.C_below HR0_0.out HB.out))
    (case side2 => exact HC0_0.out)
    (case side3 => exact cT_ (Kd.C_below HR0_1.out HB.out))
    (case side4 => exact HC0_1.out)
    (case side5 => exact cT_ (Kd.C_below HR0_3.out HB.out))
    (case side6 => exact HC0_3.out)
    rintro e w18 ⟨rfl, hb⟩
    refine ⟨_, rfl, ?_⟩
    replace BK424 := kB_ BK424 hb
    replace BK425 := kB_ BK425 hb
    replace BK428 := kB_ BK428 hb
    replace HB := hB_ hb
    (try clear hb)
    (try clear hb2)
    (try clear hk)
    (try clear hi)
    refine hK.out _ _ ⟨(blk_cell BK424.out 0).trans rfl, (blk_cell BK424.out 1).trans rfl, (blk_cell BK424.out 2).trans rfl, (blk_cell BK424.out 3).trans rfl, (blk_cell BK428.out 0).trans rfl, (blk_cell BK428.out 1).trans rfl⟩ (fun hHeld => ?_)
    clear hK K
    refine nS_ ?_
    refine one_ (i := 3) (N := some 17) (mb_ 8 47) rfl rfl (one_of HT_.out (by kernel_rfl)) (by decide) (fun K hK => ?_)
    refine goes_ Try.func56 (by kernel_rfl) rfl #[.string t429] (by rfl) rfl rfl aT_ ?_
    with_reducible refine (ferryref01_Be.calls k t429 t430 _ A6.out).mono ?_
    rintro e w' ⟨rfl, ⟨nd, rfl⟩⟩
    refine ⟨_, rfl, ?_⟩
    refine hK.out _ _ ⟨(blk_cell BK424.out 0).trans rfl, (blk_cell BK424.out 1).trans rfl, (blk_cell BK424.out 2).trans rfl, (blk_cell BK424.out 3).trans rfl, (blk_cell BK428.out 0).trans rfl, (blk_cell BK428.out 1).trans rfl⟩ (fun hHeld => ?_)
    clear hK K
    refine nS_ ?_
    refine pS_ 4 18 (mb_ 8 63) ?_
    refine pS_ 6 4 (mb_ 8 127) ?_
    refine one_ (i := 7) (N := none) (mb_ 8 255) rfl rfl (one_of HT_.out (by kernel_rfl)) (by decide) (fun K hK => ?_)
    have hs19 : w18.cell? ⟨gb425, 0, none⟩ = some (.int .i64 0) := (blk_cell BK425.out 0).trans rfl
    have hfs19 := blk_frozen BK425.out 0
    have hns19_0 := NB424_425.out
    have hns19_2 := NB428_425.out
    have hms19_0 := NB425_424.out
    have hms19_2 := NB425_428.out
    have hs20 : w18.cell? ⟨gb425, 1, none⟩ = some (.int .u64 0) := (blk_cell BK425.out 1).trans rfl
    have hfs20 := blk_frozen BK425.out 1
    have hns20_0 := NB424_425.out
    have hns20_2 := NB428_425.out
    have hms20_0 := NB425_424.out
    have hms20_2 := NB425_428.out
    refine skip_ (w1 := ?_) (by rfl) rfl ?_ ?_
    rotate_left
    · go_simp
      rfl
    refine hK.out _ _ ⟨((cell_far (p := ⟨gb425, _, none⟩) NB424_425.out _).trans (((cell_far (p := ⟨gb425, _, none⟩) NB424_425.out _).trans (hHeld.1)))), ((cell_far (p := ⟨gb425, _, none⟩) NB424_425.out _).trans (((cell_far (p := ⟨gb425, _, none⟩) NB424_425.out _).trans (hHeld.2.1)))), ((cell_far (p := ⟨gb425, _, none⟩) NB424_425.out _).trans (((cell_far (p := ⟨gb425, _, none⟩) NB424_425.out _).trans (hHeld.2.2.1)))), ((cell_far (p := ⟨gb425, _, none⟩) NB424_425.out _).trans (((cell_far (p := ⟨gb425, _, none⟩) NB424_425.out _).trans (hHeld.2.2.2.1)))), ((cell_far (p := ⟨gb425, _, none⟩) NB428_425.out _).trans (((cell_far (p := ⟨gb425, _, none⟩) NB428_425.out _).trans (hHeld.2.2.2.2.1)))), ((cell_far (p := ⟨gb425, _, none⟩) NB428_425.out _).trans (((cell_far (p := ⟨gb425, _, none⟩) NB428_425.out _).trans (hHeld.2.2.2.2.2))))⟩ (fun hHeld => ?_)
    clear hK K
    refine done_ (done_of HT_.out (by kernel_rfl)) ?_
    try go_wp2
    refine bodyPost_ret (results_tc rfl _ _ gb425 34 #[.int .i64 t426, .int .u64 t427] (0, 0) _ rfl (kP_ BK425.out) Try.underlying34 rfl (by kernel_rfl)) rfl ?_
    exact ⟨r3_, beT_⟩
  rw [if_neg c4] at H
  have c4b0 : (t426 == 0) = false := beq_eq_false_iff_ne.mpr c4
  have c4b1 : (t426 != 0) = true := bne_iff_ne.mpr c4
  simp only [Option.some.injEq, Prod.mk.injEq] at H
  obtain ⟨rfl, rfl, rfl⟩ := H
  go_enter Try.func26, Try.ntmps26
  try go_wp2_with (first | ((with_reducible refine gate_dst (N := 2) rfl ?_); refine bE_ 2 #[.slice A0_0 l0_0.length c0_0, .slice A0_1 l0_1.length c0_1, .int .u64 a0_2, .slice A0_3 l0_3.length c0_3] 29 ?_; intro gb424 hg w21 hbox hb; have BK424 := Aside0.mk hbox; have GW424 := geT_ w.heap.size hg; have GE424 := geT_ w.heap.size hg; replace HB := hB_ hb; clear hb hbox hg) | ((with_reducible refine gate_dst (N := 5) rfl ?_); refine bE_ 5 #[.int .i64 0, .int .u64 0] 34 ?_; intro gb425 hg w22 hbox hb; have BK425 := Aside0.mk hbox; have GW425 := geT_ w.heap.size hg; have GE425 := geT_ w.heap.size hg; have NB424_425 := nlT_ BK424.out hg; have NB425_424 := ngT_ BK424.out hg; replace BK424 := kB_ BK424 hb; replace HB := hB_ hb; clear hb hbox hg; have hnb23 := NB424_425.out; have hnc23 := NB425_424.out; obtain ⟨hcz24_0, hcz24_1, hcz24_2, hcz24_3, hfz24_0, hfz24_1, hfz24_2, hfz24_3⟩ := b4_ BK424.out) | ((with_reducible refine gate_callee (f := 54) rfl ?_); refine gL_ (some 9) Try.func54 #[.agg #[.slice A0_0 l0_0.length c0_0, .slice A0_1 l0_1.length c0_1, .int .u64 a0_2, .slice A0_3 l0_3.length c0_3], .int .u32 a1, .int .i64 4, .int .i64 4] ?_; (with_reducible refine (ferryref05_ask.calls k _ _ l0_0 _ _ l0_1 a0_2 _ _ l0_3 a1 4 4 t426 t427 _ ?side1 ?side2 ?side3 ?side4 ?side5 ?side6 A3.out).mono ?_); (case side1 => exact cT_ (Kd.C_below HR0_0.out HB.out)); (case side2 => exact HC0_0.out); (case side3 => exact cT_ (Kd.C_below HR0_1.out HB.out)); (case side4 => exact HC0_1.out); (case side5 => exact cT_ (Kd.C_below HR0_3.out HB.out)); (case side6 => exact HC0_3.out); rintro e w25 ⟨rfl, hb⟩; refine ⟨_, rfl, ?_⟩; replace BK424 := kB_ BK424 hb; replace BK425 := kB_ BK425 hb; replace HB := hB_ hb; (try clear hb); (try clear hb2); (try clear hk); (try clear hi)) | ((with_reducible refine gate_dst (N := 6) rfl ?_); refine bE_ 6 #[.int .i64 0, .int .u64 0] 34 ?_; intro gb428 hg w26 hbox hb; have BK428 := Aside0.mk hbox; have GW428 := geT_ w.heap.size hg; have GE428 := geT_ w.heap.size hg; have NB424_428 := nlT_ BK424.out hg; have NB428_424 := ngT_ BK424.out hg; have NB425_428 := nlT_ BK425.out hg; have NB428_425 := ngT_ BK425.out hg; replace BK424 := kB_ BK424 hb; replace BK425 := kB_ BK425 hb; replace HB := hB_ hb; clear hb hbox hg; have hnb27 := NB428_424.out; have hnc27 := NB424_428.out; have hnb28 := NB428_425.out; have hnc28 := NB425_428.out; obtain ⟨hcz29_0, hcz29_1, hfz29_0, hfz29_1⟩ := b2_ BK428.out))
  have n0_ : Aside0 (((w26.setCell ⟨gb428, 0, none⟩ (.int .i64 t426)).setCell ⟨gb428, 1, none⟩ (.int .u64 t427)).heap[gb424]? = some (.cells #[.slice A0_0 l0_0.length c0_0, .slice A0_1 l0_1.length c0_1, .int .u64 a0_2, .slice A0_3 l0_3.length c0_3] 29 (0, 0))) := ⟨bfT_ BK424.out⟩
  have n1_ : Aside0 (((w26.setCell ⟨gb428, 0, none⟩ (.int .i64 t426)).setCell ⟨gb428, 1, none⟩ (.int .u64 t427)).heap[gb425]? = some (.cells #[.int .i64 0, .int .u64 0] 34 (0, 0))) := ⟨bfT_ BK425.out⟩
  have n2_ : Aside0 (((w26.setCell ⟨gb428, 0, none⟩ (.int .i64 t426)).setCell ⟨gb428, 1, none⟩ (.int .u64 t427)).heap[gb428]? = some (.cells #[.int .i64 t426, .int .u64 t427] 34 (0, 0))) := ⟨kP_ BK428.out⟩
  have n3_ : Aside0 (Below w.heap.size w ((w26.setCell ⟨gb428, 0, none⟩ (.int .i64 t426)).setCell ⟨gb428, 1, none⟩ (.int .u64 t427))) := ⟨beT_⟩
  (try clear BK424)
  (try clear BK425)
  (try clear BK428)
  (try clear HB)
  generalize ((w26.setCell ⟨gb428, 0, none⟩ (.int .i64 t426)).setCell ⟨gb428, 1, none⟩ (.int .u64 t427)) = w30 at n0_ n1_ n2_ n3_ ⊢
  have BK424 := n0_
  have BK425 := n1_
  have BK428 := n2_
  have HB := n3_
  clear n0_ n1_ n2_ n3_
  replace BK424 := Aside0.mk (blk_drew BK424.out)
  replace BK425 := Aside0.mk (blk_drew BK425.out)
  replace BK428 := Aside0.mk (blk_drew BK428.out)
  replace HB := Aside0.mk (below_drew1 HB.out)
  refine start_ (n := 3) (S := fun w' => w'.cell? ⟨gb428, 0, none⟩ = some (.int .i64 t426) ∧ w'.cell? ⟨gb428, 1, none⟩ = some (.int .u64 t427)) (ds := []) (mb_ 3 0) (by kernel_rfl) rfl rfl ⟨(blk_cell BK428.out 0).trans rfl, (blk_cell BK428.out 1).trans rfl⟩ (fun hHeld => ?_)
  generalize w30.drew = w31 at BK424 BK425 BK428 HB hHeld ⊢
  refine pure_ (i := 1) (N := some 4) (v := ?_) (a' := ?_) (mb_ 3 2) rfl rfl (by kernel_rfl) (fun _ _ _ h => h) (Or.inl ⟨by rfl, ?_⟩) ?_ ?_
  rotate_left
  · intro w'
    go_simp
    with_reducible rfl
  rotate_left
  · simp only [Act.put, List.setIfInBounds_toArray, List.set_cons_zero, List.set_cons_succ, i64_w, i32_w]
    rfl
  refine take_ (i := 0) (N := some 13) (v := ?_) (a' := ?_) (mb_ 3 3) rfl rfl (by kernel_rfl) (fun _ _ _ h => h) (Or.inl ⟨by rfl, ?_⟩) hHeld ?_ ?_
  rotate_left
  · rintro w' ⟨s0, s1⟩
    go_simp
    with_reducible rfl
  rotate_left
  · simp only [Act.put, List.setIfInBounds_toArray, List.set_cons_zero, List.set_cons_succ, i64_w, i32_w]
    rfl
  refine one_ (i := 2) (N := none) (mb_ 3 7) rfl rfl (by kernel_rfl) (by decide) (fun K hK => ?_)
  have hs32 : w31.cell? ⟨gb425, 0, none⟩ = some (.int .i64 0) := (blk_cell BK425.out 0).trans rfl
  have hfs32 := blk_frozen BK425.out 0
  have hns32_0 := NB424_425.out
  have hns32_2 := NB428_425.out
  have hms32_0 := NB425_424.out
  have hms32_2 := NB425_428.out
  have hs33 : w31.cell? ⟨gb425, 1, none⟩ = some (.int .u64 0) := (blk_cell BK425.out 1).trans rfl
  have hfs33 := blk_frozen BK425.out 1
  have hns33_0 := NB424_425.out
  have hns33_2 := NB428_425.out
  have hms33_0 := NB425_424.out
  have hms33_2 := NB425_428.out
  refine skip_ (w1 := ?_) (by rfl) rfl ?_ ?_
  rotate_left
  · go_simp
    rfl
  refine hK.out _ _ ⟨((cell_far (p := ⟨gb425, _, none⟩) NB428_425.out _).trans (((cell_far (p := ⟨gb425, _, none⟩) NB428_425.out _).trans (hHeld.1)))), ((cell_far (p := ⟨gb425, _, none⟩) NB428_425.out _).trans (((cell_far (p := ⟨gb425, _, none⟩) NB428_425.out _).trans (hHeld.2))))⟩ (fun hHeld => ?_)
  clear hK K
  refine done_ (by kernel_rfl) ?_
  try go_wp2
  refine bodyPost_ret (results_tc rfl _ _ gb425 34 #[.int .i64 t426, .int .u64 t427] (0, 0) _ rfl (kP_ BK425.out) Try.underlying34 rfl (by kernel_rfl)) rfl ?_
  exact ⟨r3_, beT_⟩

end Go.Proofs.Ytgkjdpdmmlalcaa.F
end
section
namespace Go.Proofs.Ytgkjdpdmmlalcaa.F
open Go.RowKit Go.Proofs.YtgkjdpdmmlalcaaW.PrintWords Go.Proofs.YtgkjdpdmmlalcaaW.PrintLast Go.Proofs.YtgkjdpdmmlalcaaW.PrintMore
attribute [local go_sem] max2_int min2_int max_two min_two max_three min_three max_four min_four
attribute [local go_sem] cell_twice
set_option linter.unusedVariables false
set_option linter.unusedSimpArgs false

def ferryref05_Text.l0 : Nat → Int → Int → ByteArray → Int → List (S83) → List (S88) → Int → List (S41) → Option (ByteArray × Int × Int × Int)
  | 0, _, _, _, _, _, _, _, _ => none
  | k + 1, x1, x9, x10, x11, x433000, x433001, x433002, x433003 => if x11 ≤ x9 then ((ferryref05_kind.f k x433000 x433001 x433002 x433003 (IntKind.u64.wrap ((IntKind.u64.wrap (x1)) + (IntKind.u64.wrap (x11)))) 1).bind fun t434 => (if t434 = 0 then ((ferryref05_peek.f k x433000 x433001 x433002 x433003 ((IntKind.u64.wrap ((IntKind.u64.wrap (x1)) + (IntKind.u64.wrap (x11)))) % 4294967296) 1).bind fun t435 => (if t435.toList = ([0] : List UInt8) then (some (x10, 0, 0, 0)) else (if x10.size + t435.size ≤ 9223372036854775807 then (ferryref05_Text.l0 k x1 x9 (x10 ++ t435) (wrap64 (x11 + 1)) x433000 x433001 x433002 x433003) else (none)))) else (some ((⟨#[]⟩ : ByteArray), t434, IntKind.u64.wrap ((IntKind.u64.wrap (x1)) + (IntKind.u64.wrap (x11))), 0)))) else (some ((⟨#[]⟩ : ByteArray), 0, 0, 36))
def ferryref05_Text.f (k : Nat) (l0_0 : List (S83)) (l0_1 : List (S88)) (a0_2 : Int) (l0_3 : List (S41)) (a1 : Int) (a2 : Int) : Option (ByteArray × Int × Int × Int) := ferryref05_Text.l0 k a1 (mn (mx a2 0) 255) (⟨#[]⟩ : ByteArray) 0 l0_0 l0_1 a0_2 l0_3
set_option maxHeartbeats 8000000 in
set_option maxRecDepth 100000 in
theorem ferryref05_Text.calls (k : Nat) (A0_0 : Option Addr) (c0_0 : Nat) (l0_0 : List (S83)) (A0_1 : Option Addr) (c0_1 : Nat) (l0_1 : List (S88)) (a0_2 : Int) (A0_3 : Option Addr) (c0_3 : Nat) (l0_3 : List (S41)) (a1 : Int) (a2 : Int) (r1 : ByteArray) (r2 : Int) (r3 : Int) (r4 : Int) (w : World) (hr0_0 : Kd.C k83 w A0_0 l0_0.length l0_0) (hc0_0 : l0_0.length ≤ c0_0) (hr0_1 : Kd.C k88 w A0_1 l0_1.length l0_1) (hc0_1 : l0_1.length ≤ c0_1) (hr0_3 : Kd.C k41 w A0_3 l0_3.length l0_3) (hc0_3 : l0_3.length ≤ c0_3) (h : ferryref05_Text.f k l0_0 l0_1 a0_2 l0_3 a1 a2 = some (r1, r2, r3, r4)) :
    Calls Try.prog 28 #[.agg #[.slice A0_0 l0_0.length c0_0, .slice A0_1 l0_1.length c0_1, .int .u64 a0_2, .slice A0_3 l0_3.length c0_3], .int .u32 a1, .int .i64 a2] w fun e w' => e = .returned (.tuple #[.string r1, .agg #[.int .i64 r2, .int .u64 r3], .int .i64 r4]) ∧ Below w.heap.size w w' := by
  have hu29 := Try.underlying29
  have hu34 := Try.underlying34
  have HR0_0 := Aside0.mk hr0_0
  have HC0_0 := Aside0.mk hc0_0
  clear hr0_0 hc0_0
  have HR0_1 := Aside0.mk hr0_1
  have HC0_1 := Aside0.mk hc0_1
  clear hr0_1 hc0_1
  have HR0_3 := Aside0.mk hr0_3
  have HC0_3 := Aside0.mk hc0_3
  clear hr0_3 hc0_3
  have HB := Aside0.mk (Below.refl w.heap.size w)
  have H : (ferryref05_Text.l0 k a1 (mn (mx a2 0) 255) (⟨#[]⟩ : ByteArray) 0 l0_0 l0_1 a0_2 l0_3) = some (r1, r2, r3, r4) := h
  clear h
  obtain ⟨ji4, hji4⟩ : ∃ j_ : Int, (mx a2 0) = j_ := ⟨_, rfl⟩
  replace H : (ferryref05_Text.l0 k a1 (mn (ji4) 255) (⟨#[]⟩ : ByteArray) 0 l0_0 l0_1 a0_2 l0_3) = some (r1, r2, r3, r4) := by first | (rw [hji4] at H; exact H) | (simp only [hji4] at H ⊢; exact H)
  (try (have hji4l : 0 ≤ ji4 := by (rw [← hji4]; unfold mx; (repeat' split) <;> omega)))
  (try (have hji4m : 0 ≤ ji4 := by omega))
  have hji4_ : (if a2 < 0 then 0 else a2) = ji4 := hji4
  obtain ⟨ji5, hji5⟩ : ∃ j_ : Int, (mn (ji4) 255) = j_ := ⟨_, rfl⟩
  replace H : (ferryref05_Text.l0 k a1 ji5 (⟨#[]⟩ : ByteArray) 0 l0_0 l0_1 a0_2 l0_3) = some (r1, r2, r3, r4) := by first | (rw [hji5] at H; exact H) | (simp only [hji5] at H ⊢; exact H)
  have hji5_ : (if 255 < (ji4) then 255 else (ji4)) = ji5 := hji5
  have H' := Aside0.mk H
  clear H
  go_enter Try.func28, Try.ntmps28
  go_wp2_with (first | ((with_reducible refine gate_dst (N := 3) rfl ?_); refine bE_ 3 #[.slice A0_0 l0_0.length c0_0, .slice A0_1 l0_1.length c0_1, .int .u64 a0_2, .slice A0_3 l0_3.length c0_3] 29 ?_; intro gb432 hg w6 hbox hb; have BK432 := Aside0.mk hbox; have GW432 := geT_ w.heap.size hg; have GE432 := geT_ w.heap.size hg; replace HB := hB_ hb; clear hb hbox hg) | ((with_reducible refine gate_dst (N := 7) rfl ?_); refine bE_ 7 #[.int .i64 0, .int .u64 0] 34 ?_; intro gb433 hg w7 hbox hb; have BK433 := Aside0.mk hbox; have GW433 := geT_ w.heap.size hg; have GE433 := geT_ w.heap.size hg; have NB432_433 := nlT_ BK432.out hg; have NB433_432 := ngT_ BK432.out hg; replace BK432 := kB_ BK432 hb; replace HB := hB_ hb; clear hb hbox hg))
  go_loopg [10, 11] k (fun kq v10 v11 w' => ∃ (x10_1 : ByteArray) (x11_1 : Int) (x434000_1 : Int) (x434001_1 : Int), v10 = .string x10_1 ∧ v11 = .int .i64 x11_1 ∧ Aside0 (ferryref05_Text.l0 kq a1 ji5 x10_1 x11_1 l0_0 l0_1 a0_2 l0_3 = some (r1, r2, r3, r4)) ∧ Aside0 (kq ≤ k) ∧ Aside0 (w'.heap[gb432]? = some (.cells #[(.slice A0_0 l0_0.length c0_0), (.slice A0_1 l0_1.length c0_1), .int .u64 a0_2, (.slice A0_3 l0_3.length c0_3)] 29 (0, 0))) ∧ Aside0 (w'.heap[gb433]? = some (.cells #[.int .i64 x434000_1, .int .u64 x434001_1] 34 (0, 0))) ∧ Aside0 (Below w.heap.size w w'))
  case atStart => exact ⟨((⟨#[]⟩ : ByteArray)), (0), (0), (0), r1_, r1_, H', ⟨Nat.le_refl _⟩, ⟨bT_ BK432.out⟩, ⟨bT_ BK433.out⟩, ⟨beT_⟩⟩
  case round =>
    clear H'
    try clear c2
    try clear p2
    obtain ⟨x10_1, x11_1, x434000_1, x434001_1, rfl, rfl, HA, HK1, BK432, BK433, HB⟩ := hrel
    cases gk with
    | zero => exact absurd HA.out (by simp [ferryref05_Text.l0])
    | succ k1 =>
      have H := HA.out
      clear HA
      simp only [ferryref05_Text.l0] at H
      by_cases c8 : x11_1 ≤ ji5
      · rw [if_pos c8] at H
        have c8b0 : decide (x11_1 ≤ ji5) = true := decide_eq_true c8
        clear c8
        replace H := Option.bind_eq_some_iff.mp H
        obtain ⟨t434, A90, H⟩ := H
        have A9 := Aside0.mk A90
        clear A90
        by_cases c10 : t434 = 0
        · rw [if_pos c10] at H
          have c10b0 : (t434 == 0) = true := beq_iff_eq.mpr c10
          have c10b1 : (t434 != 0) = false := bne_eq_false_iff_eq.mpr c10
          clear c10
          replace H := Option.bind_eq_some_iff.mp H
          obtain ⟨t435, A110, H⟩ := H
          have A11 := Aside0.mk A110
          clear A110
          by_cases c12 : t435.toList = ([0] : List UInt8)
          · rw [if_pos c12] at H
            have c12b0 : (t435.toList == ([0] : List UInt8)) = true := beq_iff_eq.mpr c12
            have c12b1 : (t435.toList != ([0] : List UInt8)) = false := bne_eq_false_iff_eq.mpr c12
            clear c12
            simp only [Option.some.injEq, Prod.mk.injEq] at H
            obtain ⟨rfl, rfl, rfl, rfl⟩ := H
            have hnb13 := NB432_433.out
            have hnc13 := NB433_432.out
            obtain ⟨hcz14_0, hcz14_1, hcz14_2, hcz14_3, hfz14_0, hfz14_1, hfz14_2, hfz14_3⟩ := b4_ BK432.out
            go_wp2_with (first | ((with_reducible refine gate_callee (f := 60) rfl ?_); refine gL_ (some 30) Try.func60 #[.agg #[.slice A0_0 l0_0.length c0_0, .slice A0_1 l0_1.length c0_1, .int .u64 a0_2, .slice A0_3 l0_3.length c0_3], .int .u64 (IntKind.u64.wrap ((IntKind.u64.wrap (a1)) + (IntKind.u64.wrap (x11_1)))), .int .i64 1] ?_; (with_reducible refine (ferryref05_kind.calls k1 _ _ l0_0 _ _ l0_1 a0_2 _ _ l0_3 (IntKind.u64.wrap ((IntKind.u64.wrap (a1)) + (IntKind.u64.wrap (x11_1)))) 1 t434 _ ?side1 ?side2 ?side3 ?side4 ?side5 ?side6 A9.out).mono ?_); (case side1 => exact cT_ (Kd.C_below HR0_0.out HB.out)); (case side2 => exact HC0_0.out); (case side3 => exact cT_ (Kd.C_below HR0_1.out HB.out)); (case side4 => exact HC0_1.out); (case side5 => exact cT_ (Kd.C_below HR0_3.out HB.out)); (case side6 => exact HC0_3.out); rintro e w15 ⟨rfl, hb⟩; refine ⟨_, rfl, ?_⟩; replace BK432 := kB_ BK432 hb; replace BK433 := kB_ BK433 hb; replace HB := hB_ hb; (try clear hb); (try clear hb2); (try clear hk); (try clear hi); obtain ⟨hcz16_0, hcz16_1, hcz16_2, hcz16_3, hfz16_0, hfz16_1, hfz16_2, hfz16_3⟩ := b4_ BK432.out) | ((with_reducible refine gate_callee (f := 55) rfl ?_); refine gL_ (some 39) Try.func55 #[.agg #[.slice A0_0 l0_0.length c0_0, .slice A0_1 l0_1.length c0_1, .int .u64 a0_2, .slice A0_3 l0_3.length c0_3], .int .u32 ((IntKind.u64.wrap ((IntKind.u64.wrap (a1)) + (IntKind.u64.wrap (x11_1)))) % 4294967296), .int .i64 1] ?_; (with_reducible refine (ferryref05_peek.calls k1 _ _ l0_0 _ _ l0_1 a0_2 _ _ l0_3 ((IntKind.u64.wrap ((IntKind.u64.wrap (a1)) + (IntKind.u64.wrap (x11_1)))) % 4294967296) 1 t435 _ ?side1 ?side2 ?side3 ?side4 ?side5 ?side6 A11.out).mono ?_); (case side1 => exact cT_ (Kd.C_below HR0_0.out HB.out)); (case side2 => exact HC0_0.out); (case side3 => exact cT_ (Kd.C_below HR0_1.out HB.out)); (case side4 => exact HC0_1.out); (case side5 => exact cT_ (Kd.C_below HR0_3.out HB.out)); (case side6 => exact HC0_3.out); rintro e w17 ⟨rfl, hb⟩; refine ⟨_, rfl, ?_⟩; replace BK432 := kB_ BK432 hb; replace BK433 := kB_ BK433 hb; replace HB := hB_ hb; (try clear hb); (try clear hb2); (try clear hk); (try clear hi); obtain ⟨hcz18_0, hcz18_1, hfz18_0, hfz18_1⟩ := b2_ BK433.out))
            refine bodyPost_ret (results_list (rs := [.tmp 6, .cell 7 34, .tmp 8]) rfl (by simp) (.tmp (.cell gb433 34 #[.int .i64 0, .int .u64 0] (0, 0) _ rfl (kP_ BK433.out) Try.underlying34 rfl (by kernel_rfl) (.tmp .nil)))) rfl ?_
            exact ⟨by first | rfl | (simp [errW_none, errW_some] <;> rfl) | (simp only [← hji4, ← hji5]; first | rfl | (simp [errW_none, errW_some] <;> rfl)) | (simp [*, errW_none, errW_some] <;> rfl), beT_⟩
          rw [if_neg c12] at H
          have c12b0 : (t435.toList == ([0] : List UInt8)) = false := beq_eq_false_iff_ne.mpr c12
          have c12b1 : (t435.toList != ([0] : List UInt8)) = true := bne_iff_ne.mpr c12
          by_cases c19 : x10_1.size + t435.size ≤ 9223372036854775807
          · rw [if_pos c19] at H
            have c19b0 := eq_true c19
            have c19b1 : decide (x10_1.size + t435.size ≤ 9223372036854775807) = true := decide_eq_true c19
            try have c19b2 : (9223372036854775807 < x10_1.size + t435.size) = False := eq_false (Nat.not_lt.2 c19)
            have H' := Aside0.mk H
            clear H
            have hnb20 := NB432_433.out
            have hnc20 := NB433_432.out
            obtain ⟨hcz21_0, hcz21_1, hcz21_2, hcz21_3, hfz21_0, hfz21_1, hfz21_2, hfz21_3⟩ := b4_ BK432.out
            go_wp2_with (first | ((with_reducible refine gate_callee (f := 60) rfl ?_); refine gL_ (some 30) Try.func60 #[.agg #[.slice A0_0 l0_0.length c0_0, .slice A0_1 l0_1.length c0_1, .int .u64 a0_2, .slice A0_3 l0_3.length c0_3], .int .u64 (IntKind.u64.wrap ((IntKind.u64.wrap (a1)) + (IntKind.u64.wrap (x11_1)))), .int .i64 1] ?_; (with_reducible refine (ferryref05_kind.calls k1 _ _ l0_0 _ _ l0_1 a0_2 _ _ l0_3 (IntKind.u64.wrap ((IntKind.u64.wrap (a1)) + (IntKind.u64.wrap (x11_1)))) 1 t434 _ ?side1 ?side2 ?side3 ?side4 ?side5 ?side6 A9.out).mono ?_); (case side1 => exact cT_ (Kd.C_below HR0_0.out HB.out)); (case side2 => exact HC0_0.out); (case side3 => exact cT_ (Kd.C_below HR0_1.out HB.out)); (case side4 => exact HC0_1.out); (case side5 => exact cT_ (Kd.C_below HR0_3.out HB.out)); (case side6 => exact HC0_3.out); rintro e w22 ⟨rfl, hb⟩; refine ⟨_, rfl, ?_⟩; replace BK432 := kB_ BK432 hb; replace BK433 := kB_ BK433 hb; replace HB := hB_ hb; (try clear hb); (try clear hb2); (try clear hk); (try clear hi); obtain ⟨hcz23_0, hcz23_1, hcz23_2, hcz23_3, hfz23_0, hfz23_1, hfz23_2, hfz23_3⟩ := b4_ BK432.out) | ((with_reducible refine gate_callee (f := 55) rfl ?_); refine gL_ (some 39) Try.func55 #[.agg #[.slice A0_0 l0_0.length c0_0, .slice A0_1 l0_1.length c0_1, .int .u64 a0_2, .slice A0_3 l0_3.length c0_3], .int .u32 ((IntKind.u64.wrap ((IntKind.u64.wrap (a1)) + (IntKind.u64.wrap (x11_1)))) % 4294967296), .int .i64 1] ?_; (with_reducible refine (ferryref05_peek.calls k1 _ _ l0_0 _ _ l0_1 a0_2 _ _ l0_3 ((IntKind.u64.wrap ((IntKind.u64.wrap (a1)) + (IntKind.u64.wrap (x11_1)))) % 4294967296) 1 t435 _ ?side1 ?side2 ?side3 ?side4 ?side5 ?side6 A11.out).mono ?_); (case side1 => exact cT_ (Kd.C_below HR0_0.out HB.out)); (case side2 => exact HC0_0.out); (case side3 => exact cT_ (Kd.C_below HR0_1.out HB.out)); (case side4 => exact HC0_1.out); (case side5 => exact cT_ (Kd.C_below HR0_3.out HB.out)); (case side6 => exact HC0_3.out); rintro e w24 ⟨rfl, hb⟩; refine ⟨_, rfl, ?_⟩; replace BK432 := kB_ BK432 hb; replace BK433 := kB_ BK433 hb; replace HB := hB_ hb; (try clear hb); (try clear hb2); (try clear hk); (try clear hi)))
            go_roundg k1
            case measure => have := HK1.out; omega
            case rel => exact ⟨(x10_1 ++ t435), (wrap64 (x11_1 + 1)), (x434000_1), (x434001_1), r1_, r1_, H', ⟨by have := HK1.out; omega⟩, ⟨bT_ BK432.out⟩, ⟨bT_ BK433.out⟩, ⟨beT_⟩⟩
          rw [if_neg c19] at H
          exact absurd H (by simp)
        rw [if_neg c10] at H
        have c10b0 : (t434 == 0) = false := beq_eq_false_iff_ne.mpr c10
        have c10b1 : (t434 != 0) = true := bne_iff_ne.mpr c10
        simp only [Option.some.injEq, Prod.mk.injEq] at H
        obtain ⟨rfl, rfl, rfl, rfl⟩ := H
        have hnb25 := NB432_433.out
        have hnc25 := NB433_432.out
        obtain ⟨hcz26_0, hcz26_1, hcz26_2, hcz26_3, hfz26_0, hfz26_1, hfz26_2, hfz26_3⟩ := b4_ BK432.out
        go_wp2_with (first | ((with_reducible refine gate_callee (f := 60) rfl ?_); refine gL_ (some 30) Try.func60 #[.agg #[.slice A0_0 l0_0.length c0_0, .slice A0_1 l0_1.length c0_1, .int .u64 a0_2, .slice A0_3 l0_3.length c0_3], .int .u64 (IntKind.u64.wrap ((IntKind.u64.wrap (a1)) + (IntKind.u64.wrap (x11_1)))), .int .i64 1] ?_; (with_reducible refine (ferryref05_kind.calls k1 _ _ l0_0 _ _ l0_1 a0_2 _ _ l0_3 (IntKind.u64.wrap ((IntKind.u64.wrap (a1)) + (IntKind.u64.wrap (x11_1)))) 1 t434 _ ?side1 ?side2 ?side3 ?side4 ?side5 ?side6 A9.out).mono ?_); (case side1 => exact cT_ (Kd.C_below HR0_0.out HB.out)); (case side2 => exact HC0_0.out); (case side3 => exact cT_ (Kd.C_below HR0_1.out HB.out)); (case side4 => exact HC0_1.out); (case side5 => exact cT_ (Kd.C_below HR0_3.out HB.out)); (case side6 => exact HC0_3.out); rintro e w27 ⟨rfl, hb⟩; refine ⟨_, rfl, ?_⟩; replace BK432 := kB_ BK432 hb; replace BK433 := kB_ BK433 hb; replace HB := hB_ hb; (try clear hb); (try clear hb2); (try clear hk); (try clear hi); obtain ⟨hcz28_0, hcz28_1, hfz28_0, hfz28_1⟩ := b2_ BK433.out))
        refine bodyPost_ret (results_list (rs := [.tmp 6, .cell 7 34, .tmp 8]) rfl (by simp) (.tmp (.cell gb433 34 #[.int .i64 t434, .int .u64 (IntKind.u64.wrap ((IntKind.u64.wrap (a1)) + (IntKind.u64.wrap (x11_1))))] (0, 0) _ rfl (kP_ BK433.out) Try.underlying34 rfl (by kernel_rfl) (.tmp .nil)))) rfl ?_
        exact ⟨by first | rfl | (simp [errW_none, errW_some] <;> rfl) | (simp only [← hji4, ← hji5]; first | rfl | (simp [errW_none, errW_some] <;> rfl)) | (simp [*, errW_none, errW_some] <;> rfl), beT_⟩
      rw [if_neg c8] at H
      have c8b0 : decide (x11_1 ≤ ji5) = false := decide_eq_false c8
      clear c8
      simp only [Option.some.injEq, Prod.mk.injEq] at H
      obtain ⟨rfl, rfl, rfl, rfl⟩ := H
      have hnb29 := NB433_432.out
      have hnc29 := NB432_433.out
      obtain ⟨hcz30_0, hcz30_1, hfz30_0, hfz30_1⟩ := b2_ BK433.out
      go_wp2
      refine bodyPost_ret (results_list (rs := [.tmp 6, .cell 7 34, .tmp 8]) rfl (by simp) (.tmp (.cell gb433 34 #[.int .i64 0, .int .u64 0] (0, 0) _ rfl (kP_ BK433.out) Try.underlying34 rfl (by kernel_rfl) (.tmp .nil)))) rfl ?_
      exact ⟨by first | rfl | (simp [errW_none, errW_some] <;> rfl) | (simp only [← hji4, ← hji5]; first | rfl | (simp [errW_none, errW_some] <;> rfl)) | (simp [*, errW_none, errW_some] <;> rfl), beT_⟩

end Go.Proofs.Ytgkjdpdmmlalcaa.F
end
