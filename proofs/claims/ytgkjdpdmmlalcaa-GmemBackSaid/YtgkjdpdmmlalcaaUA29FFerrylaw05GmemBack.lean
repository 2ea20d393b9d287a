import Derived.Test.YtgkjdpdmmlalcaaUZF0
import Derived.Test.YtgkjdpdmmlalcaaUA0
import Derived.Test.YtgkjdpdmmlalcaaUA2
import Derived.Test.YtgkjdpdmmlalcaaUA4
import Derived.Test.YtgkjdpdmmlalcaaUA6
import Derived.Test.YtgkjdpdmmlalcaaUA7FFerryref04Fit
import Derived.Test.YtgkjdpdmmlalcaaUA8
import Derived.Test.YtgkjdpdmmlalcaaUA10
import Derived.Test.YtgkjdpdmmlalcaaUA13HHost6
import Derived.Test.YtgkjdpdmmlalcaaUA14
import Derived.Test.YtgkjdpdmmlalcaaUA18
import Derived.Test.YtgkjdpdmmlalcaaUA20
import Derived.Test.YtgkjdpdmmlalcaaUA22
import Derived.Test.YtgkjdpdmmlalcaaUA27FFerrylaw05Awake
import Derived.Test.YtgkjdpdmmlalcaaUA28FFerryref04Same
section
namespace Go.Proofs.Ytgkjdpdmmlalcaa.F
open Go.RowKit Go.Proofs.YtgkjdpdmmlalcaaW.PrintWords Go.Proofs.YtgkjdpdmmlalcaaW.PrintLast Go.Proofs.YtgkjdpdmmlalcaaW.PrintMore
attribute [local go_sem] max2_int min2_int max_two min_two max_three min_three max_four min_four
attribute [local go_sem] u32w
attribute [local go_sem] cell_twice
set_option linter.unusedVariables false
set_option linter.unusedSimpArgs false

attribute [local go_sem high] eqA41
mutual
def ferrylaw05_GmemBack.j0 : Nat → Int → ByteArray → Int → Bool → List (S83) → List (S88) → Int → List (S41) → Option (Bool)
  | 0, _, _, _, _, _, _, _, _ => none
  | k + 1, x1, x2, x3, x22, x351000, x351001, x351002, x351003 => if x22 = true then ((ferrylaw05_awake.f k).bind fun t352 => (some t352)) else ((gmem_Put.f k x351000 x351001 x351002 x351003 x1 x2).bind fun bt353 => (if bt353.2.2.2.2.1 = 0 then ((gmem_Bytes.f bt353.1 bt353.2.1 bt353.2.2.1 bt353.2.2.2.1 x1 (((x2.size : Int)) % 4294967296)).bind fun bt369 => (if bt369.2.1 = 0 then (if bt369.1.toList = x2.toList then (if bt369.2.1 = 1 then (ferrylaw05_GmemBack.j1 k x1 x2 x3 true x351000 x351001 x351002 x351003 bt353.1 bt353.2.1 bt353.2.2.1 bt353.2.2.2.1) else (if (bt353.2.2.2.1.length : Int) = (x351003.length : Int) then (ferrylaw05_GmemBack.j1 k x1 x2 x3 (bt353.2.2.1 != x351002) x351000 x351001 x351002 x351003 bt353.1 bt353.2.1 bt353.2.2.1 bt353.2.2.2.1) else (ferrylaw05_GmemBack.j1 k x1 x2 x3 true x351000 x351001 x351002 x351003 bt353.1 bt353.2.1 bt353.2.2.1 bt353.2.2.2.1))) else (ferrylaw05_GmemBack.j1 k x1 x2 x3 true x351000 x351001 x351002 x351003 bt353.1 bt353.2.1 bt353.2.2.1 bt353.2.2.2.1)) else (if bt369.2.1 = 1 then (ferrylaw05_GmemBack.j1 k x1 x2 x3 true x351000 x351001 x351002 x351003 bt353.1 bt353.2.1 bt353.2.2.1 bt353.2.2.2.1) else (if (bt353.2.2.2.1.length : Int) = (x351003.length : Int) then (ferrylaw05_GmemBack.j1 k x1 x2 x3 (bt353.2.2.1 != x351002) x351000 x351001 x351002 x351003 bt353.1 bt353.2.1 bt353.2.2.1 bt353.2.2.2.1) else (ferrylaw05_GmemBack.j1 k x1 x2 x3 true x351000 x351001 x351002 x351003 bt353.1 bt353.2.1 bt353.2.2.1 bt353.2.2.2.1))))) else ((ferryref04_Same.f k bt353.1 bt353.2.1 bt353.2.2.1 bt353.2.2.2.1 x351000 x351001 x351002 x351003).bind fun t367 => (if t367 = true then ((ferrylaw05_awake.f k).bind fun t368 => (some t368)) else (none)))))
def ferrylaw05_GmemBack.j1 : Nat → Int → ByteArray → Int → Bool → List (S83) → List (S88) → Int → List (S41) → List (S83) → List (S88) → Int → List (S41) → Option (Bool)
  | 0, _, _, _, _, _, _, _, _, _, _, _, _ => none
  | k + 1, x1, x2, x3, x77, x351000, x351001, x351002, x351003, x366000, x366001, x366002, x366003 => if x77 = true then (none) else (ferrylaw05_GmemBack.l0 k x1 x2 x3 (x366003.length : Int) 0 x351000 x351001 x351002 x351003 x366000 x366001 x366002 x366003)
def ferrylaw05_GmemBack.l0 : Nat → Int → ByteArray → Int → Int → Int → List (S83) → List (S88) → Int → List (S41) → List (S83) → List (S88) → Int → List (S41) → Option (Bool)
  | 0, _, _, _, _, _, _, _, _, _, _, _, _, _ => none
  | k + 1, x1, x2, x3, x80, x81, x351000, x351001, x351002, x351003, x366000, x366001, x366002, x366003 => if x81 < x80 then (if 0 ≤ x81 then (if x81 < (x366003.length : Int) then (if x81 < (x351003.length : Int) then (if (!(((rd_T41 x366003 x81).f0) == ((rd_T41 x351003 x81).f0)) || (!(((rd_T41 x366003 x81).f1) == ((rd_T41 x351003 x81).f1)))) = true then (none) else (ferrylaw05_GmemBack.l0 k x1 x2 x3 x80 (wrap64 (x81 + 1)) x351000 x351001 x351002 x351003 x366000 x366001 x366002 x366003)) else (none)) else (none)) else (none)) else ((ferryref04_Place.f x351000 x351001 x351002 x351003 x1).bind fun t375 => (if x3 ≥ t375 then (if (IntKind.u64.wrap (x3 - t375)) < (IntKind.u64.wrap ((x2.size : Int))) then ((ferryref04_Fit.f k x366000 x366001 x366002 x366003).bind fun t376 => (if t376 = true then ((ferrylaw05_awake.f k).bind fun t377 => (some t377)) else (none))) else ((ferryref03_Peek.f k x366000 x366001 x3).bind fun t378 => ((ferryref03_Peek.f k x351000 x351001 x3).bind fun t379 => (if t378 = t379 then ((ferryref04_Fit.f k x366000 x366001 x366002 x366003).bind fun t380 => (if t380 = true then ((ferrylaw05_awake.f k).bind fun t381 => (some t381)) else (none))) else (none))))) else ((ferryref03_Peek.f k x366000 x366001 x3).bind fun t382 => ((ferryref03_Peek.f k x351000 x351001 x3).bind fun t383 => (if t382 = t383 then ((ferryref04_Fit.f k x366000 x366001 x366002 x366003).bind fun t384 => (if t384 = true then ((ferrylaw05_awake.f k).bind fun t385 => (some t385)) else (none))) else (none))))))
end
def ferrylaw05_GmemBack.f (k : Nat) (l0_0 : List (S83)) (l0_1 : List (S88)) (a0_2 : Int) (l0_3 : List (S41)) (a1 : Int) (a2 : ByteArray) (a3 : Int) : Option (Bool) := (ferrylaw05_few.f k l0_0 l0_1 a0_2 l0_3).bind fun t351 => (if t351 = true then (ferrylaw05_GmemBack.j0 k a1 a2 a3 (decide ((a2.size : Int) > 300)) l0_0 l0_1 a0_2 l0_3) else (ferrylaw05_GmemBack.j0 k a1 a2 a3 true l0_0 l0_1 a0_2 l0_3))
def ferrylaw05_GmemBack.T12 : Bool × List (List Nat × List Nat) := (true, [([], []), ([0], [0]), ([], []), ([1, 2], [1, 2]), ([3], [3]), ([], []), ([5], [5]), ([], []), ([6, 7], [6, 7]), ([8], [8]), ([4, 9], [4, 9])])
def ferrylaw05_GmemBack.B12 : List Nat := [0, 1, 0, 7, 15, 0, 32, 0, 224, 480, 1023]
theorem ferrylaw05_GmemBack.tab12 : rtab .any (opsOf Try.f3 12) = ferrylaw05_GmemBack.T12 := by kernel_rfl
theorem ferrylaw05_GmemBack.bits12 : waitsOk ferrylaw05_GmemBack.T12.2 ferrylaw05_GmemBack.B12 = true := by kernel_rfl
def ferrylaw05_GmemBack.T16 : Bool × List (List Nat × List Nat) := (true, [([], []), ([], []), ([0, 1], [0, 1]), ([2], [2]), ([3], [3]), ([3], [3]), ([4, 5, 3], [3, 4, 5]), ([3], [3]), ([7, 3], [3, 7]), ([8, 3], [3, 8]), ([6, 9, 3], [3, 6, 9]), ([3, 10], [3, 10]), ([11, 3], [11]), ([12], [12]), ([13, 12], [12, 13]), ([12], [12]), ([14, 15, 12, 12], [12, 14, 15]), ([12], [12]), ([17, 12], [12, 17]), ([12], [12]), ([18, 19, 16, 12], [12, 18, 19]), ([16, 20, 12], [12, 16, 20]), ([12, 21], [12, 21]), ([22, 20], [22]), ([23], [23]), ([24, 23, 23], [23, 24]), ([23, 25], [23, 25]), ([26, 25], [26]), ([27, 27], [27]), ([27, 28], [27, 28]), ([29, 28, 0, 1, 2, 3, 4, 5, 6, 7, 8, 9, 10, 11, 12, 13, 14, 15, 16, 17, 18, 19, 20, 21, 22, 23, 24, 25, 26, 27, 28, 29], [29])])
def ferrylaw05_GmemBack.B16 : List Nat := [0, 0, 3, 7, 15, 15, 63, 15, 143, 399, 1023, 2047, 4095, 8191, 16383, 8191, 65535, 8191, 139263, 8191, 1048575, 2097151, 4194303, 8388607, 16777215, 33554431, 67108863, 134217727, 268435455, 536870911, 1073741823]
theorem ferrylaw05_GmemBack.tab16 : rtab .any (opsOf Try.f3 16) = ferrylaw05_GmemBack.T16 := by kernel_rfl
theorem ferrylaw05_GmemBack.bits16 : waitsOk ferrylaw05_GmemBack.T16.2 ferrylaw05_GmemBack.B16 = true := by kernel_rfl
set_option maxHeartbeats 8000000 in
set_option maxRecDepth 100000 in
theorem ferrylaw05_GmemBack.calls (k : Nat) (A0_0 : Option Addr) (c0_0 : Nat) (l0_0 : List (S83)) (A0_1 : Option Addr) (c0_1 : Nat) (l0_1 : List (S88)) (a0_2 : Int) (A0_3 : Option Addr) (c0_3 : Nat) (l0_3 : List (S41)) (a1 : Int) (a2 : ByteArray) (a3 : Int) (r : Bool) (w : World) (hr0_0 : Kd.C k83 w A0_0 l0_0.length l0_0) (hc0_0 : l0_0.length ≤ c0_0) (hr0_1 : Kd.C k88 w A0_1 l0_1.length l0_1) (hc0_1 : l0_1.length ≤ c0_1) (hr0_3 : Kd.C k41 w A0_3 l0_3.length l0_3) (hc0_3 : l0_3.length ≤ c0_3) (h : ferrylaw05_GmemBack.f k l0_0 l0_1 a0_2 l0_3 a1 a2 a3 = some r) :
    Calls Try.prog 3 #[.agg #[.slice A0_0 l0_0.length c0_0, .slice A0_1 l0_1.length c0_1, .int .u64 a0_2, .slice A0_3 l0_3.length c0_3], .int .u32 a1, .string a2, .int .u64 a3] w fun e w' => e = .returned (.bool r) ∧ Below w.heap.size w w' := by
  have hu29 := Try.underlying29
  have hu34 := Try.underlying34
  have hu41 := Try.underlying41
  have hu25 := Try.underlying25
  have HR0_0 := Aside0.mk hr0_0
  have HC0_0 := Aside0.mk hc0_0
  clear hr0_0 hc0_0
  have HR0_1 := Aside0.mk hr0_1
  have HC0_1 := Aside0.mk hc0_1
  clear hr0_1 hc0_1
  have HR0_3 := Aside0.mk hr0_3
  have HC0_3 := Aside0.mk hc0_3
  clear hr0_3 hc0_3
  have HB := Aside0.mk (Below.refl w.heap.size w)
  have H : ((ferrylaw05_few.f k l0_0 l0_1 a0_2 l0_3).bind fun t351 => (if t351 = true then (ferrylaw05_GmemBack.j0 k a1 a2 a3 (decide ((a2.size : Int) > 300)) l0_0 l0_1 a0_2 l0_3) else (ferrylaw05_GmemBack.j0 k a1 a2 a3 true l0_0 l0_1 a0_2 l0_3))) = some r := h
  clear h
  have HC5 := Aside0.mk H
  clear H
  go_enter Try.func3, Try.ntmps3
  go_upto_region 1 with (first | ((with_reducible refine gate_dst (N := 4) rfl ?_); (try (refine gate_guard (by rfl) ?_; dsimp only)); refine bE_ 4 #[.slice A0_0 l0_0.length c0_0, .slice A0_1 l0_1.length c0_1, .int .u64 a0_2, .slice A0_3 l0_3.length c0_3] 29 ?_; intro gb350 hg w6 hbox hb; have BK350 := Aside0.mk hbox; have GW350 := geT_ w.heap.size hg; have GE350 := geT_ w.heap.size hg; replace HB := hB_ hb; clear hb hbox hg))
  (try simp only [Act.put, List.setIfInBounds_toArray, List.set_cons_zero, List.set_cons_succ])
  go_cut [22] (fun v22 wc => ∃ (kq : Nat) (x22_4 : Bool), v22 = .bool x22_4 ∧ Aside0 (ferrylaw05_GmemBack.j0 kq a1 a2 a3 x22_4 l0_0 l0_1 a0_2 l0_3 = some r) ∧ Aside0 (kq ≤ k) ∧ Aside0 (wc.heap[gb350]? = some (.cells #[(.slice A0_0 l0_0.length c0_0), (.slice A0_1 l0_1.length c0_1), .int .u64 a0_2, (.slice A0_3 l0_3.length c0_3)] 29 (0, 0))) ∧ Aside0 (Below w.heap.size w wc))
  case first =>
    have H := HC5.out
    clear HC5
    replace H := Option.bind_eq_some_iff.mp H
    obtain ⟨t351, A70, H⟩ := H
    have A7 := Aside0.mk A70
    clear A70
    by_cases c8 : t351 = true
    · subst c8
      replace H := hP_ H
      have H' := Aside0.mk H
      clear H
      obtain ⟨hcz9_0, hcz9_1, hcz9_2, hcz9_3, hfz9_0, hfz9_1, hfz9_2, hfz9_3⟩ := b4_ BK350.out
      go_wp2_with (first | ((with_reducible refine gate_callee (f := 9) rfl ?_); refine gL_ (some 16) Try.func9 #[.agg #[.slice A0_0 l0_0.length c0_0, .slice A0_1 l0_1.length c0_1, .int .u64 a0_2, .slice A0_3 l0_3.length c0_3]] ?_; (with_reducible refine (ferrylaw05_few.calls k _ _ l0_0 _ _ l0_1 a0_2 _ _ l0_3 true _ ?side1 ?side2 ?side3 ?side4 ?side5 ?side6 A7.out).mono ?_); (case side1 => exact cT_ (Kd.C_below HR0_0.out HB.out)); (case side2 => exact HC0_0.out); (case side3 => exact cT_ (Kd.C_below HR0_1.out HB.out)); (case side4 => exact HC0_1.out); (case side5 => exact cT_ (Kd.C_below HR0_3.out HB.out)); (case side6 => exact HC0_3.out); rintro e w10 ⟨rfl, hb⟩; refine ⟨_, rfl, ?_⟩; replace BK350 := kB_ BK350 hb; replace HB := hB_ hb; (try clear hb); (try clear hb2); (try clear hk); (try clear hi)))
      go_meet
      case rel => exact ⟨_, (decide ((a2.size : Int) > 300)), r1_, H', ⟨r2_⟩, ⟨bT_ BK350.out⟩, ⟨beT_⟩⟩
    replace c8 := Bool.eq_false_iff.mpr c8
    subst c8
    replace H := hN_ H
    have H' := Aside0.mk H
    clear H
    obtain ⟨hcz11_0, hcz11_1, hcz11_2, hcz11_3, hfz11_0, hfz11_1, hfz11_2, hfz11_3⟩ := b4_ BK350.out
    go_wp2_with (first | ((with_reducible refine gate_callee (f := 9) rfl ?_); refine gL_ (some 16) Try.func9 #[.agg #[.slice A0_0 l0_0.length c0_0, .slice A0_1 l0_1.length c0_1, .int .u64 a0_2, .slice A0_3 l0_3.length c0_3]] ?_; (with_reducible refine (ferrylaw05_few.calls k _ _ l0_0 _ _ l0_1 a0_2 _ _ l0_3 false _ ?side1 ?side2 ?side3 ?side4 ?side5 ?side6 A7.out).mono ?_); (case side1 => exact cT_ (Kd.C_below HR0_0.out HB.out)); (case side2 => exact HC0_0.out); (case side3 => exact cT_ (Kd.C_below HR0_1.out HB.out)); (case side4 => exact HC0_1.out); (case side5 => exact cT_ (Kd.C_below HR0_3.out HB.out)); (case side6 => exact HC0_3.out); rintro e w12 ⟨rfl, hb⟩; refine ⟨_, rfl, ?_⟩; replace BK350 := kB_ BK350 hb; replace HB := hB_ hb; (try clear hb); (try clear hb2); (try clear hk); (try clear hi)))
    go_meet
    case rel => exact ⟨_, (true), r1_, H', ⟨r2_⟩, ⟨bT_ BK350.out⟩, ⟨beT_⟩⟩
  case rest =>
    clear HC5
    try clear p2
    try clear c3
    try clear c8
    try clear c9
    try clear hcz11_0
    try clear hcz11_1
    try clear hcz11_2
    try clear hcz11_3
    try clear hcz9_0
    try clear hcz9_1
    try clear hcz9_2
    try clear hcz9_3
    try clear hfz11_0
    try clear hfz11_1
    try clear hfz11_2
    try clear hfz11_3
    try clear hfz9_0
    try clear hfz9_1
    try clear hfz9_2
    try clear hfz9_3
    obtain ⟨kq, x22_4, rfl, HA, HJ4, BK350, HB⟩ := hcut
    cases kq with
    | zero => exact absurd HA.out (by simp [ferrylaw05_GmemBack.j0])
    | succ kj4 =>
      have H := HA.out
      clear HA
      simp only [ferrylaw05_GmemBack.j0] at H
      by_cases c13 : x22_4 = true
      · subst c13
        replace H := hP_ H
        replace H := Option.bind_eq_some_iff.mp H
        obtain ⟨t352, A140, H⟩ := H
        have A14 := Aside0.mk A140
        clear A140
        obtain rfl := Option.some.inj H
        go_wp2_with (first | ((with_reducible refine gate_callee (f := 10) rfl ?_); refine gL_ (some 23) Try.func10 #[] ?_; (with_reducible refine (ferrylaw05_awake.calls kj4  t352 _ A14.out).mono ?_); rintro e w15 ⟨rfl, hb⟩; refine ⟨_, rfl, ?_⟩; replace BK350 := kB_ BK350 hb; replace HB := hB_ hb; (try clear hb); (try clear hb2); (try clear hk); (try clear hi)))
        go_ret
        exact ⟨r3_, beT_⟩
      replace c13 := Bool.eq_false_iff.mpr c13
      subst c13
      replace H := hN_ H
      replace H := Option.bind_eq_some_iff.mp H
      obtain ⟨⟨t353, t356, t359, t360, t363, t364⟩, A160, H⟩ := H
      have A16 := Aside0.mk A160
      clear A160
      by_cases c17 : t363 = 0
      · rw [if_pos c17] at H
        have c17b0 : (t363 == 0) = true := beq_iff_eq.mpr c17
        have c17b1 : (t363 != 0) = false := bne_eq_false_iff_eq.mpr c17
        clear c17
        replace H := Option.bind_eq_some_iff.mp H
        obtain ⟨⟨t369, t370, t371⟩, A180, H⟩ := H
        have A18 := Aside0.mk A180
        clear A180
        have HC19 := Aside0.mk H
        clear H
        obtain ⟨hcz20_0, hcz20_1, hcz20_2, hcz20_3, hfz20_0, hfz20_1, hfz20_2, hfz20_3⟩ := b4_ BK350.out
        go_upto_region 7 with (first | ((with_reducible refine gate_callee (f := 11) rfl ?_); refine gL_ (some 28) Try.func11 #[.agg #[.slice A0_0 l0_0.length c0_0, .slice A0_1 l0_1.length c0_1, .int .u64 a0_2, .slice A0_3 l0_3.length c0_3], .int .u32 a1, .string a2] ?_; (with_reducible refine (gmem_Put.calls kj4 (fun k_ => k_ < w.heap.size) _ _ l0_0 (fun k_ => k_ < w.heap.size) _ _ l0_1 a0_2 (fun k_ => k_ < w.heap.size) _ _ l0_3 a1 a2 t353 t356 t359 t360 t363 t364 _ ?side1 ?side2 ?side3 A16.out).mono ?_); (case side1 => exact Kd.V_mk HC0_0.out (Kd.F_below (Kd.C_F k83_heap HR0_0.out) beT_)); (case side2 => exact Kd.V_mk HC0_1.out (Kd.F_below (Kd.C_F k88_heap HR0_1.out) beT_)); (case side3 => exact Kd.V_mk HC0_3.out (Kd.F_below (Kd.C_F k41_heap HR0_3.out) beT_)); rintro e w21 ⟨v354, v357, v361, rfl, ho0, ho1, ho2, hb⟩; refine ⟨_, rfl, ?_⟩; have HO355 := Aside0.mk (Kd.V_lower (Kd.V_mono (ok' := fun k_ => k_ ≠ gb350) ho0 (fun k_ hk_ => Or.elim hk_ (fun hs_ => Or.elim hs_ (fun hs_ => fun e_ => Nat.not_le.2 hs_ (by rw [e_]; exact GW350.out)) (fun hs_ => Or.elim hs_ (fun hs_ => fun e_ => Nat.not_le.2 hs_ (by rw [e_]; exact GW350.out)) (fun hs_ => fun e_ => Nat.not_le.2 hs_ (by rw [e_]; exact GW350.out)))) (fun hn_ => (Kd.freshB (g := gb350) (o := .cells #[.slice A0_0 l0_0.length c0_0, .slice A0_1 l0_1.length c0_1, .int .u64 a0_2, .slice A0_3 l0_3.length c0_3] 29 (0, 0)) (bT_ BK350.out) k_ hn_)))) (below_size beT_)); have HO358 := Aside0.mk (Kd.V_lower (Kd.V_mono (ok' := fun k_ => k_ ≠ gb350) ho1 (fun k_ hk_ => Or.elim hk_ (fun hs_ => Or.elim hs_ (fun hs_ => fun e_ => Nat.not_le.2 hs_ (by rw [e_]; exact GW350.out)) (fun hs_ => Or.elim hs_ (fun hs_ => fun e_ => Nat.not_le.2 hs_ (by rw [e_]; exact GW350.out)) (fun hs_ => fun e_ => Nat.not_le.2 hs_ (by rw [e_]; exact GW350.out)))) (fun hn_ => (Kd.freshB (g := gb350) (o := .cells #[.slice A0_0 l0_0.length c0_0, .slice A0_1 l0_1.length c0_1, .int .u64 a0_2, .slice A0_3 l0_3.length c0_3] 29 (0, 0)) (bT_ BK350.out) k_ hn_)))) (below_size beT_)); have HO362 := Aside0.mk (Kd.V_lower (Kd.V_mono (ok' := fun k_ => k_ ≠ gb350) ho2 (fun k_ hk_ => Or.elim hk_ (fun hs_ => Or.elim hs_ (fun hs_ => fun e_ => Nat.not_le.2 hs_ (by rw [e_]; exact GW350.out)) (fun hs_ => Or.elim hs_ (fun hs_ => fun e_ => Nat.not_le.2 hs_ (by rw [e_]; exact GW350.out)) (fun hs_ => fun e_ => Nat.not_le.2 hs_ (by rw [e_]; exact GW350.out)))) (fun hn_ => (Kd.freshB (g := gb350) (o := .cells #[.slice A0_0 l0_0.length c0_0, .slice A0_1 l0_1.length c0_1, .int .u64 a0_2, .slice A0_3 l0_3.length c0_3] 29 (0, 0)) (bT_ BK350.out) k_ hn_)))) (below_size beT_)); replace BK350 := kB_ BK350 hb; replace HB := hB_ hb; (try clear hb); (try clear hb2); (try clear hk); (try clear hi); (try clear ho0); (try clear ho1); (try clear ho2)) | ((with_reducible refine gate_dst (N := 9) rfl ?_); (try (refine gate_guard (by rfl) ?_; dsimp only)); refine bE_ 9 #[.slice none 0 0, .slice none 0 0, .int .u64 0, .slice none 0 0] 29 ?_; intro gb365 hg w22 hbox hb; have BK365 := Aside0.mk hbox; have GW365 := geT_ w.heap.size hg; have GE365 := geT_ w.heap.size hg; have NB350_365 := nlT_ BK350.out hg; have NB365_350 := ngT_ BK350.out hg; replace HO355 := vE_ HO355.out hg hb; replace HO358 := vE_ HO358.out hg hb; replace HO362 := vE_ HO362.out hg hb; replace BK350 := kB_ BK350 hb; replace HB := hB_ hb; clear hb hbox hg) | ((with_reducible refine gate_dst (N := 10) rfl ?_); (try (refine gate_guard (by rfl) ?_; dsimp only)); refine bE_ 10 #[.int .i64 0, .int .u64 0] 34 ?_; intro gb366 hg w23 hbox hb; have BK366 := Aside0.mk hbox; have GW366 := geT_ w.heap.size hg; have GE366 := geT_ w.heap.size hg; have NB350_366 := nlT_ BK350.out hg; have NB366_350 := ngT_ BK350.out hg; have NB365_366 := nlT_ BK365.out hg; have NB366_365 := ngT_ BK365.out hg; replace HO355 := vE_ HO355.out hg hb; replace HO358 := vE_ HO358.out hg hb; replace HO362 := vE_ HO362.out hg hb; replace BK350 := kB_ BK350 hb; replace BK365 := kB_ BK365 hb; replace HB := hB_ hb; clear hb hbox hg; obtain ⟨Ao24, co24, eo24⟩ := Kd.V_slice HO355.out; subst eo24; have hnb25 := NB365_350.out; have hnc25 := NB350_365.out; have hnb26 := NB365_366.out; have hnc26 := NB366_365.out; obtain ⟨hcz27_0, hcz27_1, hcz27_2, hcz27_3, hfz27_0, hfz27_1, hfz27_2, hfz27_3⟩ := b4_ BK365.out; obtain ⟨Ao28, co28, eo28⟩ := Kd.V_slice HO358.out; subst eo28; obtain ⟨Ao29, co29, eo29⟩ := Kd.V_slice HO362.out; subst eo29; have hnb30 := NB366_350.out; have hnc30 := NB350_366.out; obtain ⟨hcz31_0, hcz31_1, hfz31_0, hfz31_1⟩ := b2_ BK366.out) | ((with_reducible refine gate_callee (f := 13) rfl ?_); refine gL_ (some 46) Try.func13 #[.agg #[.slice Ao24 t353.length co24, .slice Ao28 t356.length co28, .int .u64 t359, .slice Ao29 t360.length co29], .int .u32 a1, .int .u32 (((a2.size : Int)) % 4294967296)] ?_; (with_reducible refine (gmem_Bytes.calls _ _ t353 _ _ t356 t359 _ _ t360 a1 (((a2.size : Int)) % 4294967296) t369 t370 t371 _ ?side1 ?side2 ?side3 ?side4 ?side5 ?side6 A18.out).mono ?_); (case side1 => refine (Kd.V_reads' (e := 83) (base := w.heap.size) (ok := fun _ => True) (n := t353.length) (c := co24) ?_).2.2; exact (by (with_reducible repeat (first | apply Kd.V_alloc | apply Kd.V_drewN | apply Kd.V_drew)); exact (Kd.V_mono (Kd.V_mono (Kd.V_far (p := ⟨gb366, 1, none⟩) (Kd.V_far (p := ⟨gb366, 0, none⟩) (Kd.V_far (p := ⟨gb365, 3, none⟩) (Kd.V_far (p := ⟨gb365, 2, none⟩) (Kd.V_far (p := ⟨gb365, 1, none⟩) (Kd.V_far (p := ⟨gb365, 0, none⟩) (Kd.V_mono (Kd.V_mono HO355.out (fun k_ hk => (⟨hk, by first | exact hk.1.2 | exact hk.1.2.1 | exact hk.1.2.2| omega | grind⟩ : _ ∧ k_ ≠ gb365))) (fun k_ hk => (⟨hk, by first | exact hk.1.2 | exact hk.1.2.1 | exact hk.1.2.2| omega | grind⟩ : _ ∧ k_ ≠ gb366))) (fun _ hk => by first | exact hk.1.2 | grind) (.slice Ao24 t353.length co24)) (fun _ hk => by first | exact hk.1.2 | grind) (.slice Ao28 t356.length co28)) (fun _ hk => by first | exact hk.1.2 | grind) (.int .u64 t359)) (fun _ hk => by first | exact hk.1.2 | grind) (.slice Ao29 t360.length co29)) (fun _ hk => by first | exact hk.2 | grind) (.int .i64 t363)) (fun _ hk => by first | exact hk.2 | grind) (.int .u64 t364)) (fun _ _ => trivial)) (fun _ _ => trivial)))); (case side2 => exact (Kd.V_reads' HO355.out).2.1); (case side3 => refine (Kd.V_reads' (e := 88) (base := w.heap.size) (ok := fun _ => True) (n := t356.length) (c := co28) ?_).2.2; exact (by (with_reducible repeat (first | apply Kd.V_alloc | apply Kd.V_drewN | apply Kd.V_drew)); exact (Kd.V_mono (Kd.V_mono (Kd.V_far (p := ⟨gb366, 1, none⟩) (Kd.V_far (p := ⟨gb366, 0, none⟩) (Kd.V_far (p := ⟨gb365, 3, none⟩) (Kd.V_far (p := ⟨gb365, 2, none⟩) (Kd.V_far (p := ⟨gb365, 1, none⟩) (Kd.V_far (p := ⟨gb365, 0, none⟩) (Kd.V_mono (Kd.V_mono HO358.out (fun k_ hk => (⟨hk, by first | exact hk.1.2 | exact hk.1.2.1 | exact hk.1.2.2| omega | grind⟩ : _ ∧ k_ ≠ gb365))) (fun k_ hk => (⟨hk, by first | exact hk.1.2 | exact hk.1.2.1 | exact hk.1.2.2| omega | grind⟩ : _ ∧ k_ ≠ gb366))) (fun _ hk => by first | exact hk.1.2 | grind) (.slice Ao24 t353.length co24)) (fun _ hk => by first | exact hk.1.2 | grind) (.slice Ao28 t356.length co28)) (fun _ hk => by first | exact hk.1.2 | grind) (.int .u64 t359)) (fun _ hk => by first | exact hk.1.2 | grind) (.slice Ao29 t360.length co29)) (fun _ hk => by first | exact hk.2 | grind) (.int .i64 t363)) (fun _ hk => by first | exact hk.2 | grind) (.int .u64 t364)) (fun _ _ => trivial)) (fun _ _ => trivial)))); (case side4 => exact (Kd.V_reads' HO358.out).2.1); (case side5 => refine (Kd.V_reads' (e := 41) (base := w.heap.size) (ok := fun _ => True) (n := t360.length) (c := co29) ?_).2.2; exact (by (with_reducible repeat (first | apply Kd.V_alloc | apply Kd.V_drewN | apply Kd.V_drew)); exact (Kd.V_mono (Kd.V_mono (Kd.V_far (p := ⟨gb366, 1, none⟩) (Kd.V_far (p := ⟨gb366, 0, none⟩) (Kd.V_far (p := ⟨gb365, 3, none⟩) (Kd.V_far (p := ⟨gb365, 2, none⟩) (Kd.V_far (p := ⟨gb365, 1, none⟩) (Kd.V_far (p := ⟨gb365, 0, none⟩) (Kd.V_mono (Kd.V_mono HO362.out (fun k_ hk => (⟨hk, by first | exact hk.1.2 | exact hk.1.2.1 | exact hk.1.2.2| omega | grind⟩ : _ ∧ k_ ≠ gb365))) (fun k_ hk => (⟨hk, by first | exact hk.1.2 | exact hk.1.2.1 | exact hk.1.2.2| omega | grind⟩ : _ ∧ k_ ≠ gb366))) (fun _ hk => by first | exact hk.1.2 | grind) (.slice Ao24 t353.length co24)) (fun _ hk => by first | exact hk.1.2 | grind) (.slice Ao28 t356.length co28)) (fun _ hk => by first | exact hk.1.2 | grind) (.int .u64 t359)) (fun _ hk => by first | exact hk.1.2 | grind) (.slice Ao29 t360.length co29)) (fun _ hk => by first | exact hk.2 | grind) (.int .i64 t363)) (fun _ hk => by first | exact hk.2 | grind) (.int .u64 t364)) (fun _ _ => trivial)) (fun _ _ => trivial)))); (case side6 => exact (Kd.V_reads' HO362.out).2.1); rintro e w32 ⟨rfl, hb⟩; refine ⟨_, rfl, ?_⟩; replace HO355 := Aside0.mk (Kd.V_below (by (with_reducible repeat (first | apply Kd.V_alloc | apply Kd.V_drewN | apply Kd.V_drew)); exact (Kd.V_mono (Kd.V_mono (Kd.V_far (p := ⟨gb366, 1, none⟩) (Kd.V_far (p := ⟨gb366, 0, none⟩) (Kd.V_far (p := ⟨gb365, 3, none⟩) (Kd.V_far (p := ⟨gb365, 2, none⟩) (Kd.V_far (p := ⟨gb365, 1, none⟩) (Kd.V_far (p := ⟨gb365, 0, none⟩) (Kd.V_mono (Kd.V_mono HO355.out (fun k_ hk => (⟨hk, by first | exact hk.1.2 | exact hk.1.2.1 | exact hk.1.2.2| omega | grind⟩ : _ ∧ k_ ≠ gb365))) (fun k_ hk => (⟨hk, by first | exact hk.1.2 | exact hk.1.2.1 | exact hk.1.2.2| omega | grind⟩ : _ ∧ k_ ≠ gb366))) (fun _ hk => by first | exact hk.1.2 | grind) (.slice Ao24 t353.length co24)) (fun _ hk => by first | exact hk.1.2 | grind) (.slice Ao28 t356.length co28)) (fun _ hk => by first | exact hk.1.2 | grind) (.int .u64 t359)) (fun _ hk => by first | exact hk.1.2 | grind) (.slice Ao29 t360.length co29)) (fun _ hk => by first | exact hk.2 | grind) (.int .i64 t363)) (fun _ hk => by first | exact hk.2 | grind) (.int .u64 t364)) (fun _ h_ => h_.1)) (fun _ h_ => h_.1))) hb); replace HO358 := Aside0.mk (Kd.V_below (by (with_reducible repeat (first | apply Kd.V_alloc | apply Kd.V_drewN | apply Kd.V_drew)); exact (Kd.V_mono (Kd.V_mono (Kd.V_far (p := ⟨gb366, 1, none⟩) (Kd.V_far (p := ⟨gb366, 0, none⟩) (Kd.V_far (p := ⟨gb365, 3, none⟩) (Kd.V_far (p := ⟨gb365, 2, none⟩) (Kd.V_far (p := ⟨gb365, 1, none⟩) (Kd.V_far (p := ⟨gb365, 0, none⟩) (Kd.V_mono (Kd.V_mono HO358.out (fun k_ hk => (⟨hk, by first | exact hk.1.2 | exact hk.1.2.1 | exact hk.1.2.2| omega | grind⟩ : _ ∧ k_ ≠ gb365))) (fun k_ hk => (⟨hk, by first | exact hk.1.2 | exact hk.1.2.1 | exact hk.1.2.2| omega | grind⟩ : _ ∧ k_ ≠ gb366))) (fun _ hk => by first | exact hk.1.2 | grind) (.slice Ao24 t353.length co24)) (fun _ hk => by first | exact hk.1.2 | grind) (.slice Ao28 t356.length co28)) (fun _ hk => by first | exact hk.1.2 | grind) (.int .u64 t359)) (fun _ hk => by first | exact hk.1.2 | grind) (.slice Ao29 t360.length co29)) (fun _ hk => by first | exact hk.2 | grind) (.int .i64 t363)) (fun _ hk => by first | exact hk.2 | grind) (.int .u64 t364)) (fun _ h_ => h_.1)) (fun _ h_ => h_.1))) hb); replace HO362 := Aside0.mk (Kd.V_below (by (with_reducible repeat (first | apply Kd.V_alloc | apply Kd.V_drewN | apply Kd.V_drew)); exact (Kd.V_mono (Kd.V_mono (Kd.V_far (p := ⟨gb366, 1, none⟩) (Kd.V_far (p := ⟨gb366, 0, none⟩) (Kd.V_far (p := ⟨gb365, 3, none⟩) (Kd.V_far (p := ⟨gb365, 2, none⟩) (Kd.V_far (p := ⟨gb365, 1, none⟩) (Kd.V_far (p := ⟨gb365, 0, none⟩) (Kd.V_mono (Kd.V_mono HO362.out (fun k_ hk => (⟨hk, by first | exact hk.1.2 | exact hk.1.2.1 | exact hk.1.2.2| omega | grind⟩ : _ ∧ k_ ≠ gb365))) (fun k_ hk => (⟨hk, by first | exact hk.1.2 | exact hk.1.2.1 | exact hk.1.2.2| omega | grind⟩ : _ ∧ k_ ≠ gb366))) (fun _ hk => by first | exact hk.1.2 | grind) (.slice Ao24 t353.length co24)) (fun _ hk => by first | exact hk.1.2 | grind) (.slice Ao28 t356.length co28)) (fun _ hk => by first | exact hk.1.2 | grind) (.int .u64 t359)) (fun _ hk => by first | exact hk.1.2 | grind) (.slice Ao29 t360.length co29)) (fun _ hk => by first | exact hk.2 | grind) (.int .i64 t363)) (fun _ hk => by first | exact hk.2 | grind) (.int .u64 t364)) (fun _ h_ => h_.1)) (fun _ h_ => h_.1))) hb); replace BK350 := kB_ BK350 hb; replace BK365 := Aside0.mk (blk_below (g := gb365) (o := .cells #[.slice Ao24 t353.length co24, .slice Ao28 t356.length co28, .int .u64 t359, .slice Ao29 t360.length co29] 29 (0, 0)) (kP_ BK365.out) hb); replace BK366 := Aside0.mk (blk_below (g := gb366) (o := .cells #[.int .i64 t363, .int .u64 t364] 34 (0, 0)) (kP_ BK366.out) hb); replace HB := hB_ hb; (try clear hb); (try clear hb2); (try clear hk); (try clear hi)) | ((with_reducible refine gate_dst (N := 12) rfl ?_); (try (refine gate_guard (by rfl) ?_; dsimp only)); refine bE_ 12 #[.int .i64 0, .int .u64 0] 34 ?_; intro gb372 hg w33 hbox hb; have BK372 := Aside0.mk hbox; have GW372 := geT_ w.heap.size hg; have GE372 := geT_ w.heap.size hg; have NB350_372 := nlT_ BK350.out hg; have NB372_350 := ngT_ BK350.out hg; have NB365_372 := nlT_ BK365.out hg; have NB372_365 := ngT_ BK365.out hg; have NB366_372 := nlT_ BK366.out hg; have NB372_366 := ngT_ BK366.out hg; replace HO355 := vE_ HO355.out hg hb; replace HO358 := vE_ HO358.out hg hb; replace HO362 := vE_ HO362.out hg hb; replace BK350 := kB_ BK350 hb; replace BK365 := kB_ BK365 hb; replace BK366 := kB_ BK366 hb; replace HB := hB_ hb; clear hb hbox hg; have hnb34 := NB372_350.out; have hnc34 := NB350_372.out; have hnb35 := NB372_365.out; have hnc35 := NB365_372.out; have hnb36 := NB372_366.out; have hnc36 := NB366_372.out; obtain ⟨hcz37_0, hcz37_1, hfz37_0, hfz37_1⟩ := b2_ BK372.out))
        (try simp only [Act.put, List.setIfInBounds_toArray, List.set_cons_zero, List.set_cons_succ])
        go_cut [77] (fun v77 wc => ∃ (kq : Nat) (x77_18 : Bool), v77 = .bool x77_18 ∧ Aside0 (ferrylaw05_GmemBack.j1 kq a1 a2 a3 x77_18 l0_0 l0_1 a0_2 l0_3 t353 t356 t359 t360 = some r) ∧ Aside0 (kq ≤ kj4) ∧ Aside0 (Kd.V k83 83 wc w.heap.size (fun k_ => k_ ≠ gb350 ∧ k_ ≠ gb365 ∧ k_ ≠ gb366 ∧ k_ ≠ gb372) (.slice Ao24 t353.length co24) t353) ∧ Aside0 (Kd.V k88 88 wc w.heap.size (fun k_ => k_ ≠ gb350 ∧ k_ ≠ gb365 ∧ k_ ≠ gb366 ∧ k_ ≠ gb372) (.slice Ao28 t356.length co28) t356) ∧ Aside0 (Kd.V k41 41 wc w.heap.size (fun k_ => k_ ≠ gb350 ∧ k_ ≠ gb365 ∧ k_ ≠ gb366 ∧ k_ ≠ gb372) (.slice Ao29 t360.length co29) t360) ∧ Aside0 (wc.heap[gb350]? = some (.cells #[(.slice A0_0 l0_0.length c0_0), (.slice A0_1 l0_1.length c0_1), .int .u64 a0_2, (.slice A0_3 l0_3.length c0_3)] 29 (0, 0))) ∧ Aside0 (wc.heap[gb365]? = some (.cells #[(.slice Ao24 t353.length co24), (.slice Ao28 t356.length co28), .int .u64 t359, (.slice Ao29 t360.length co29)] 29 (0, 0))) ∧ Aside0 (wc.heap[gb366]? = some (.cells #[.int .i64 t363, .int .u64 t364] 34 (0, 0))) ∧ Aside0 (wc.heap[gb372]? = some (.cells #[.int .i64 t370, .int .u64 t371] 34 (0, 0))) ∧ Aside0 (Below w.heap.size w wc))
        case first =>
          have H := HC19.out
          clear HC19
          by_cases c38 : t370 = 0
          · rw [if_pos c38] at H
            have c38b0 : (t370 == 0) = true := beq_iff_eq.mpr c38
            have c38b1 : (t370 != 0) = false := bne_eq_false_iff_eq.mpr c38
            clear c38
            (first | rw [c38b0] | (simp only [i64_w, i32_w]; rw [c38b0]) | skip)
            by_cases c39 : t369.toList = a2.toList
            · rw [if_pos c39] at H
              have c39b0 : (t369.toList == a2.toList) = true := beq_iff_eq.mpr c39
              have c39b1 : (t369.toList != a2.toList) = false := bne_eq_false_iff_eq.mpr c39
              clear c39
              by_cases c40 : t370 = 1
              · rw [if_pos c40] at H
                have c40b0 : (t370 == 1) = true := beq_iff_eq.mpr c40
                have c40b1 : (t370 != 1) = false := bne_eq_false_iff_eq.mpr c40
                clear c40
                have H' := Aside0.mk H
                clear H
                have hnb41 := NB372_350.out
                have hnc41 := NB350_372.out
                have hnb42 := NB372_365.out
                have hnc42 := NB365_372.out
                have hnb43 := NB372_366.out
                have hnc43 := NB366_372.out
                obtain ⟨hcz44_0, hcz44_1, hfz44_0, hfz44_1⟩ := b2_ BK372.out
                go_wp2
                go_meet
                case rel => exact ⟨_, (true), r1_, H', ⟨by have := HJ4.out; first | omega | exact Nat.le_refl _⟩, ⟨vF_ HO355.out⟩, ⟨vF_ HO358.out⟩, ⟨vF_ HO362.out⟩, ⟨bfT_ BK350.out⟩, ⟨bfT_ BK365.out⟩, ⟨bfT_ BK366.out⟩, ⟨kP_ BK372.out⟩, ⟨beT_⟩⟩
              rw [if_neg c40] at H
              have c40b0 : (t370 == 1) = false := beq_eq_false_iff_ne.mpr c40
              have c40b1 : (t370 != 1) = true := bne_iff_ne.mpr c40
              by_cases c45 : (t360.length : Int) = (l0_3.length : Int)
              · rw [if_pos c45] at H
                have c45b0 : ((t360.length : Int) == (l0_3.length : Int)) = true := beq_iff_eq.mpr c45
                have c45b1 : ((t360.length : Int) != (l0_3.length : Int)) = false := bne_eq_false_iff_eq.mpr c45
                have c45b2 : (t360.length == l0_3.length) = true := by first | simpa using c45 | (simp at c45 ⊢; omega)
                clear c45
                have H' := Aside0.mk H
                clear H
                have hnb46 := NB372_350.out
                have hnc46 := NB350_372.out
                have hnb47 := NB372_365.out
                have hnc47 := NB365_372.out
                have hnb48 := NB372_366.out
                have hnc48 := NB366_372.out
                obtain ⟨hcz49_0, hcz49_1, hfz49_0, hfz49_1⟩ := b2_ BK372.out
                have hnb50 := NB365_350.out
                have hnc50 := NB350_365.out
                have hnb51 := NB365_366.out
                have hnc51 := NB366_365.out
                obtain ⟨hcz52_0, hcz52_1, hcz52_2, hcz52_3, hfz52_0, hfz52_1, hfz52_2, hfz52_3⟩ := b4_ BK365.out
                have hnb53 := NB350_366.out
                have hnc53 := NB366_350.out
                obtain ⟨hcz54_0, hcz54_1, hcz54_2, hcz54_3, hfz54_0, hfz54_1, hfz54_2, hfz54_3⟩ := b4_ BK350.out
                go_wp2
                go_meet
                case rel => exact ⟨_, ((t359 != a0_2)), r1_, H', ⟨by have := HJ4.out; first | omega | exact Nat.le_refl _⟩, ⟨vF_ HO355.out⟩, ⟨vF_ HO358.out⟩, ⟨vF_ HO362.out⟩, ⟨bfT_ BK350.out⟩, ⟨bfT_ BK365.out⟩, ⟨bfT_ BK366.out⟩, ⟨kP_ BK372.out⟩, ⟨beT_⟩⟩
              rw [if_neg c45] at H
              have c45b0 : ((t360.length : Int) == (l0_3.length : Int)) = false := beq_eq_false_iff_ne.mpr c45
              have c45b1 : ((t360.length : Int) != (l0_3.length : Int)) = true := bne_iff_ne.mpr c45
              have c45b2 : (t360.length == l0_3.length) = false := by first | simpa using c45 | (simp at c45 ⊢; omega)
              have H' := Aside0.mk H
              clear H
              have hnb55 := NB372_350.out
              have hnc55 := NB350_372.out
              have hnb56 := NB372_365.out
              have hnc56 := NB365_372.out
              have hnb57 := NB372_366.out
              have hnc57 := NB366_372.out
              obtain ⟨hcz58_0, hcz58_1, hfz58_0, hfz58_1⟩ := b2_ BK372.out
              have hnb59 := NB365_350.out
              have hnc59 := NB350_365.out
              have hnb60 := NB365_366.out
              have hnc60 := NB366_365.out
              obtain ⟨hcz61_0, hcz61_1, hcz61_2, hcz61_3, hfz61_0, hfz61_1, hfz61_2, hfz61_3⟩ := b4_ BK365.out
              have hnb62 := NB350_366.out
              have hnc62 := NB366_350.out
              obtain ⟨hcz63_0, hcz63_1, hcz63_2, hcz63_3, hfz63_0, hfz63_1, hfz63_2, hfz63_3⟩ := b4_ BK350.out
              go_wp2
              go_meet
              case rel => exact ⟨_, (true), r1_, H', ⟨by have := HJ4.out; first | omega | exact Nat.le_refl _⟩, ⟨vF_ HO355.out⟩, ⟨vF_ HO358.out⟩, ⟨vF_ HO362.out⟩, ⟨bfT_ BK350.out⟩, ⟨bfT_ BK365.out⟩, ⟨bfT_ BK366.out⟩, ⟨kP_ BK372.out⟩, ⟨beT_⟩⟩
            rw [if_neg c39] at H
            have c39b0 : (t369.toList == a2.toList) = false := beq_eq_false_iff_ne.mpr c39
            have c39b1 : (t369.toList != a2.toList) = true := bne_iff_ne.mpr c39
            have H' := Aside0.mk H
            clear H
            have hnb64 := NB372_350.out
            have hnc64 := NB350_372.out
            have hnb65 := NB372_365.out
            have hnc65 := NB365_372.out
            have hnb66 := NB372_366.out
            have hnc66 := NB366_372.out
            obtain ⟨hcz67_0, hcz67_1, hfz67_0, hfz67_1⟩ := b2_ BK372.out
            go_wp2
            go_meet
            case rel => exact ⟨_, (true), r1_, H', ⟨by have := HJ4.out; first | omega | exact Nat.le_refl _⟩, ⟨vF_ HO355.out⟩, ⟨vF_ HO358.out⟩, ⟨vF_ HO362.out⟩, ⟨bfT_ BK350.out⟩, ⟨bfT_ BK365.out⟩, ⟨bfT_ BK366.out⟩, ⟨kP_ BK372.out⟩, ⟨beT_⟩⟩
          rw [if_neg c38] at H
          have c38b0 : (t370 == 0) = false := beq_eq_false_iff_ne.mpr c38
          have c38b1 : (t370 != 0) = true := bne_iff_ne.mpr c38
          (first | rw [c38b0] | (simp only [i64_w, i32_w]; rw [c38b0]) | skip)
          by_cases c68 : t370 = 1
          · rw [if_pos c68] at H
            have c68b0 : (t370 == 1) = true := beq_iff_eq.mpr c68
            have c68b1 : (t370 != 1) = false := bne_eq_false_iff_eq.mpr c68
            clear c68
            have H' := Aside0.mk H
            clear H
            have hnb69 := NB372_350.out
            have hnc69 := NB350_372.out
            have hnb70 := NB372_365.out
            have hnc70 := NB365_372.out
            have hnb71 := NB372_366.out
            have hnc71 := NB366_372.out
            obtain ⟨hcz72_0, hcz72_1, hfz72_0, hfz72_1⟩ := b2_ BK372.out
            go_wp2
            go_meet
            case rel => exact ⟨_, (true), r1_, H', ⟨by have := HJ4.out; first | omega | exact Nat.le_refl _⟩, ⟨vF_ HO355.out⟩, ⟨vF_ HO358.out⟩, ⟨vF_ HO362.out⟩, ⟨bfT_ BK350.out⟩, ⟨bfT_ BK365.out⟩, ⟨bfT_ BK366.out⟩, ⟨kP_ BK372.out⟩, ⟨beT_⟩⟩
          rw [if_neg c68] at H
          have c68b0 : (t370 == 1) = false := beq_eq_false_iff_ne.mpr c68
          have c68b1 : (t370 != 1) = true := bne_iff_ne.mpr c68
          by_cases c73 : (t360.length : Int) = (l0_3.length : Int)
          · rw [if_pos c73] at H
            have c73b0 : ((t360.length : Int) == (l0_3.length : Int)) = true := beq_iff_eq.mpr c73
            have c73b1 : ((t360.length : Int) != (l0_3.length : Int)) = false := bne_eq_false_iff_eq.mpr c73
            have c73b2 : (t360.length == l0_3.length) = true := by first | simpa using c73 | (simp at c73 ⊢; omega)
            clear c73
            have H' := Aside0.mk H
            clear H
            have hnb74 := NB372_350.out
            have hnc74 := NB350_372.out
            have hnb75 := NB372_365.out
            have hnc75 := NB365_372.out
            have hnb76 := NB372_366.out
            have hnc76 := NB366_372.out
            obtain ⟨hcz77_0, hcz77_1, hfz77_0, hfz77_1⟩ := b2_ BK372.out
            have hnb78 := NB365_350.out
            have hnc78 := NB350_365.out
            have hnb79 := NB365_366.out
            have hnc79 := NB366_365.out
            obtain ⟨hcz80_0, hcz80_1, hcz80_2, hcz80_3, hfz80_0, hfz80_1, hfz80_2, hfz80_3⟩ := b4_ BK365.out
            have hnb81 := NB350_366.out
            have hnc81 := NB366_350.out
            obtain ⟨hcz82_0, hcz82_1, hcz82_2, hcz82_3, hfz82_0, hfz82_1, hfz82_2, hfz82_3⟩ := b4_ BK350.out
            go_wp2
            go_meet
            case rel => exact ⟨_, ((t359 != a0_2)), r1_, H', ⟨by have := HJ4.out; first | omega | exact Nat.le_refl _⟩, ⟨vF_ HO355.out⟩, ⟨vF_ HO358.out⟩, ⟨vF_ HO362.out⟩, ⟨bfT_ BK350.out⟩, ⟨bfT_ BK365.out⟩, ⟨bfT_ BK366.out⟩, ⟨kP_ BK372.out⟩, ⟨beT_⟩⟩
          rw [if_neg c73] at H
          have c73b0 : ((t360.length : Int) == (l0_3.length : Int)) = false := beq_eq_false_iff_ne.mpr c73
          have c73b1 : ((t360.length : Int) != (l0_3.length : Int)) = true := bne_iff_ne.mpr c73
          have c73b2 : (t360.length == l0_3.length) = false := by first | simpa using c73 | (simp at c73 ⊢; omega)
          have H' := Aside0.mk H
          clear H
          have hnb83 := NB372_350.out
          have hnc83 := NB350_372.out
          have hnb84 := NB372_365.out
          have hnc84 := NB365_372.out
          have hnb85 := NB372_366.out
          have hnc85 := NB366_372.out
          obtain ⟨hcz86_0, hcz86_1, hfz86_0, hfz86_1⟩ := b2_ BK372.out
          have hnb87 := NB365_350.out
          have hnc87 := NB350_365.out
          have hnb88 := NB365_366.out
          have hnc88 := NB366_365.out
          obtain ⟨hcz89_0, hcz89_1, hcz89_2, hcz89_3, hfz89_0, hfz89_1, hfz89_2, hfz89_3⟩ := b4_ BK365.out
          have hnb90 := NB350_366.out
          have hnc90 := NB366_350.out
          obtain ⟨hcz91_0, hcz91_1, hcz91_2, hcz91_3, hfz91_0, hfz91_1, hfz91_2, hfz91_3⟩ := b4_ BK350.out
          go_wp2
          go_meet
          case rel => exact ⟨_, (true), r1_, H', ⟨by have := HJ4.out; first | omega | exact Nat.le_refl _⟩, ⟨vF_ HO355.out⟩, ⟨vF_ HO358.out⟩, ⟨vF_ HO362.out⟩, ⟨bfT_ BK350.out⟩, ⟨bfT_ BK365.out⟩, ⟨bfT_ BK366.out⟩, ⟨kP_ BK372.out⟩, ⟨beT_⟩⟩
        case rest =>
          clear HC19
          try clear c1
          try clear c2
          try clear p2
          try clear c3
          try clear c4
          try clear c5
          try clear c6
          try clear c7
          try clear c8
          try clear c9
          try clear c10
          try clear c11
          try clear c13
          try clear c17
          try clear c17b0
          try clear c17b1
          try clear c25
          try clear c26
          try clear c30
          try clear c34
          try clear c35
          try clear c36
          try clear c38
          try clear c38b0
          try clear c38b1
          try clear c39
          try clear c39b0
          try clear c39b1
          try clear c40
          try clear c40b0
          try clear c40b1
          try clear c41
          try clear c42
          try clear c43
          try clear c45
          try clear c45b0
          try clear c45b1
          try clear c45b2
          try clear c46
          try clear c47
          try clear c48
          try clear c50
          try clear c51
          try clear c53
          try clear c55
          try clear c56
          try clear c57
          try clear c59
          try clear c60
          try clear c62
          try clear c64
          try clear c65
          try clear c66
          try clear c68
          try clear c68b0
          try clear c68b1
          try clear c69
          try clear c70
          try clear c71
          try clear c73
          try clear c73b0
          try clear c73b1
          try clear c73b2
          try clear c74
          try clear c75
          try clear c76
          try clear c78
          try clear c79
          try clear c81
          try clear c83
          try clear c84
          try clear c85
          try clear c87
          try clear c88
          try clear c90
          try clear hcz11_0
          try clear hcz11_1
          try clear hcz11_2
          try clear hcz11_3
          try clear hcz20_0
          try clear hcz20_1
          try clear hcz20_2
          try clear hcz20_3
          try clear hcz27_0
          try clear hcz27_1
          try clear hcz27_2
          try clear hcz27_3
          try clear hcz31_0
          try clear hcz31_1
          try clear hcz37_0
          try clear hcz37_1
          try clear hcz44_0
          try clear hcz44_1
          try clear hcz49_0
          try clear hcz49_1
          try clear hcz52_0
          try clear hcz52_1
          try clear hcz52_2
          try clear hcz52_3
          try clear hcz54_0
          try clear hcz54_1
          try clear hcz54_2
          try clear hcz54_3
          try clear hcz58_0
          try clear hcz58_1
          try clear hcz61_0
          try clear hcz61_1
          try clear hcz61_2
          try clear hcz61_3
          try clear hcz63_0
          try clear hcz63_1
          try clear hcz63_2
          try clear hcz63_3
          try clear hcz67_0
          try clear hcz67_1
          try clear hcz72_0
          try clear hcz72_1
          try clear hcz77_0
          try clear hcz77_1
          try clear hcz80_0
          try clear hcz80_1
          try clear hcz80_2
          try clear hcz80_3
          try clear hcz82_0
          try clear hcz82_1
          try clear hcz82_2
          try clear hcz82_3
          try clear hcz86_0
          try clear hcz86_1
          try clear hcz89_0
          try clear hcz89_1
          try clear hcz89_2
          try clear hcz89_3
          try clear hcz91_0
          try clear hcz91_1
          try clear hcz91_2
          try clear hcz91_3
          try clear hcz9_0
          try clear hcz9_1
          try clear hcz9_2
          try clear hcz9_3
          try clear hfz11_0
          try clear hfz11_1
          try clear hfz11_2
          try clear hfz11_3
          try clear hfz20_0
          try clear hfz20_1
          try clear hfz20_2
          try clear hfz20_3
          try clear hfz27_0
          try clear hfz27_1
          try clear hfz27_2
          try clear hfz27_3
          try clear hfz31_0
          try clear hfz31_1
          try clear hfz37_0
          try clear hfz37_1
          try clear hfz44_0
          try clear hfz44_1
          try clear hfz49_0
          try clear hfz49_1
          try clear hfz52_0
          try clear hfz52_1
          try clear hfz52_2
          try clear hfz52_3
          try clear hfz54_0
          try clear hfz54_1
          try clear hfz54_2
          try clear hfz54_3
          try clear hfz58_0
          try clear hfz58_1
          try clear hfz61_0
          try clear hfz61_1
          try clear hfz61_2
          try clear hfz61_3
          try clear hfz63_0
          try clear hfz63_1
          try clear hfz63_2
          try clear hfz63_3
          try clear hfz67_0
          try clear hfz67_1
          try clear hfz72_0
          try clear hfz72_1
          try clear hfz77_0
          try clear hfz77_1
          try clear hfz80_0
          try clear hfz80_1
          try clear hfz80_2
          try clear hfz80_3
          try clear hfz82_0
          try clear hfz82_1
          try clear hfz82_2
          try clear hfz82_3
          try clear hfz86_0
          try clear hfz86_1
          try clear hfz89_0
          try clear hfz89_1
          try clear hfz89_2
          try clear hfz89_3
          try clear hfz91_0
          try clear hfz91_1
          try clear hfz91_2
          try clear hfz91_3
          try clear hfz9_0
          try clear hfz9_1
          try clear hfz9_2
          try clear hfz9_3
          try clear p2
          obtain ⟨kq, x77_18, rfl, HA, HJ18, HO_366000, HO_366001, HO_366003, BK350, BK365, BK366, BK372, HB⟩ := hcut
          cases kq with
          | zero => exact absurd HA.out (by simp [ferrylaw05_GmemBack.j1])
          | succ kj18 =>
            have H := HA.out
            clear HA
            simp only [ferrylaw05_GmemBack.j1] at H
            by_cases c92 : x77_18 = true
            · subst c92
              replace H := hP_ H
              exact absurd H (by simp)
            replace c92 := Bool.eq_false_iff.mpr c92
            subst c92
            replace H := hN_ H
            have H' := Aside0.mk H
            clear H
            have hnb93 := NB365_350.out
            have hnc93 := NB350_365.out
            have hnb94 := NB365_366.out
            have hnc94 := NB366_365.out
            have hnb95 := NB365_372.out
            have hnc95 := NB372_365.out
            obtain ⟨hcz96_0, hcz96_1, hcz96_2, hcz96_3, hfz96_0, hfz96_1, hfz96_2, hfz96_3⟩ := b4_ BK365.out
            go_wp2
            go_loopg [81] kj18 (fun kq v81 w' => ∃ (x81_3 : Int), v81 = .int .i64 x81_3 ∧ Aside0 (ferrylaw05_GmemBack.l0 kq a1 a2 a3 (t360.length : Int) x81_3 l0_0 l0_1 a0_2 l0_3 t353 t356 t359 t360 = some r) ∧ Aside0 (kq ≤ kj18) ∧ Aside0 (Kd.V k83 83 w' w.heap.size (fun k_ => k_ ≠ gb350 ∧ k_ ≠ gb365 ∧ k_ ≠ gb366 ∧ k_ ≠ gb372) (.slice Ao24 t353.length co24) t353) ∧ Aside0 (Kd.V k88 88 w' w.heap.size (fun k_ => k_ ≠ gb350 ∧ k_ ≠ gb365 ∧ k_ ≠ gb366 ∧ k_ ≠ gb372) (.slice Ao28 t356.length co28) t356) ∧ Aside0 (Kd.V k41 41 w' w.heap.size (fun k_ => k_ ≠ gb350 ∧ k_ ≠ gb365 ∧ k_ ≠ gb366 ∧ k_ ≠ gb372) (.slice Ao29 t360.length co29) t360) ∧ Aside0 (w'.heap[gb350]? = some (.cells #[(.slice A0_0 l0_0.length c0_0), (.slice A0_1 l0_1.length c0_1), .int .u64 a0_2, (.slice A0_3 l0_3.length c0_3)] 29 (0, 0))) ∧ Aside0 (w'.heap[gb365]? = some (.cells #[(.slice Ao24 t353.length co24), (.slice Ao28 t356.length co28), .int .u64 t359, (.slice Ao29 t360.length co29)] 29 (0, 0))) ∧ Aside0 (w'.heap[gb366]? = some (.cells #[.int .i64 t363, .int .u64 t364] 34 (0, 0))) ∧ Aside0 (w'.heap[gb372]? = some (.cells #[.int .i64 t370, .int .u64 t371] 34 (0, 0))) ∧ Aside0 (Below w.heap.size w w'))
            case atStart => exact ⟨(0), r1_, H', ⟨Nat.le_refl _⟩, ⟨vT_ HO_366000.out⟩, ⟨vT_ HO_366001.out⟩, ⟨vT_ HO_366003.out⟩, ⟨bT_ BK350.out⟩, ⟨bT_ BK365.out⟩, ⟨bT_ BK366.out⟩, ⟨bT_ BK372.out⟩, ⟨beT_⟩⟩
            case round =>
              clear H'
              try clear c1
              try clear c2
              try clear p2
              try clear c3
              try clear c4
              try clear c5
              try clear c6
              try clear c7
              try clear c8
              try clear c9
              try clear c10
              try clear c11
              try clear c13
              try clear c17
              try clear c17b0
              try clear c17b1
              try clear c25
              try clear c26
              try clear c30
              try clear c34
              try clear c35
              try clear c36
              try clear c38
              try clear c38b0
              try clear c38b1
              try clear c39
              try clear c39b0
              try clear c39b1
              try clear c40
              try clear c40b0
              try clear c40b1
              try clear c41
              try clear c42
              try clear c43
              try clear c45
              try clear c45b0
              try clear c45b1
              try clear c45b2
              try clear c46
              try clear c47
              try clear c48
              try clear c50
              try clear c51
              try clear c53
              try clear c55
              try clear c56
              try clear c57
              try clear c59
              try clear c60
              try clear c62
              try clear c64
              try clear c65
              try clear c66
              try clear c68
              try clear c68b0
              try clear c68b1
              try clear c69
              try clear c70
              try clear c71
              try clear c73
              try clear c73b0
              try clear c73b1
              try clear c73b2
              try clear c74
              try clear c75
              try clear c76
              try clear c78
              try clear c79
              try clear c81
              try clear c83
              try clear c84
              try clear c85
              try clear c87
              try clear c88
              try clear c90
              try clear c92
              try clear c93
              try clear c94
              try clear c95
              try clear hcz11_0
              try clear hcz11_1
              try clear hcz11_2
              try clear hcz11_3
              try clear hcz20_0
              try clear hcz20_1
              try clear hcz20_2
              try clear hcz20_3
              try clear hcz27_0
              try clear hcz27_1
              try clear hcz27_2
              try clear hcz27_3
              try clear hcz31_0
              try clear hcz31_1
              try clear hcz37_0
              try clear hcz37_1
              try clear hcz44_0
              try clear hcz44_1
              try clear hcz49_0
              try clear hcz49_1
              try clear hcz52_0
              try clear hcz52_1
              try clear hcz52_2
              try clear hcz52_3
              try clear hcz54_0
              try clear hcz54_1
              try clear hcz54_2
              try clear hcz54_3
              try clear hcz58_0
              try clear hcz58_1
              try clear hcz61_0
              try clear hcz61_1
              try clear hcz61_2
              try clear hcz61_3
              try clear hcz63_0
              try clear hcz63_1
              try clear hcz63_2
              try clear hcz63_3
              try clear hcz67_0
              try clear hcz67_1
              try clear hcz72_0
              try clear hcz72_1
              try clear hcz77_0
              try clear hcz77_1
              try clear hcz80_0
              try clear hcz80_1
              try clear hcz80_2
              try clear hcz80_3
              try clear hcz82_0
              try clear hcz82_1
              try clear hcz82_2
              try clear hcz82_3
              try clear hcz86_0
              try clear hcz86_1
              try clear hcz89_0
              try clear hcz89_1
              try clear hcz89_2
              try clear hcz89_3
              try clear hcz91_0
              try clear hcz91_1
              try clear hcz91_2
              try clear hcz91_3
              try clear hcz96_0
              try clear hcz96_1
              try clear hcz96_2
              try clear hcz96_3
              try clear hcz9_0
              try clear hcz9_1
              try clear hcz9_2
              try clear hcz9_3
              try clear hfz11_0
              try clear hfz11_1
              try clear hfz11_2
              try clear hfz11_3
              try clear hfz20_0
              try clear hfz20_1
              try clear hfz20_2
              try clear hfz20_3
              try clear hfz27_0
              try clear hfz27_1
              try clear hfz27_2
              try clear hfz27_3
              try clear hfz31_0
              try clear hfz31_1
              try clear hfz37_0
              try clear hfz37_1
              try clear hfz44_0
              try clear hfz44_1
              try clear hfz49_0
              try clear hfz49_1
              try clear hfz52_0
              try clear hfz52_1
              try clear hfz52_2
              try clear hfz52_3
              try clear hfz54_0
              try clear hfz54_1
              try clear hfz54_2
              try clear hfz54_3
              try clear hfz58_0
              try clear hfz58_1
              try clear hfz61_0
              try clear hfz61_1
              try clear hfz61_2
              try clear hfz61_3
              try clear hfz63_0
              try clear hfz63_1
              try clear hfz63_2
              try clear hfz63_3
              try clear hfz67_0
              try clear hfz67_1
              try clear hfz72_0
              try clear hfz72_1
              try clear hfz77_0
              try clear hfz77_1
              try clear hfz80_0
              try clear hfz80_1
              try clear hfz80_2
              try clear hfz80_3
              try clear hfz82_0
              try clear hfz82_1
              try clear hfz82_2
              try clear hfz82_3
              try clear hfz86_0
              try clear hfz86_1
              try clear hfz89_0
              try clear hfz89_1
              try clear hfz89_2
              try clear hfz89_3
              try clear hfz91_0
              try clear hfz91_1
              try clear hfz91_2
              try clear hfz91_3
              try clear hfz96_0
              try clear hfz96_1
              try clear hfz96_2
              try clear hfz96_3
              try clear hfz9_0
              try clear hfz9_1
              try clear hfz9_2
              try clear hfz9_3
              try clear p2
              obtain ⟨x81_3, rfl, HA, HK3, HO_366000, HO_366001, HO_366003, BK350, BK365, BK366, BK372, HB⟩ := hrel
              cases gk with
              | zero => exact absurd HA.out (by simp [ferrylaw05_GmemBack.l0])
              | succ k3 =>
                have H := HA.out
                clear HA
                simp only [ferrylaw05_GmemBack.l0] at H
                by_cases c97 : x81_3 < (t360.length : Int)
                · rw [if_pos c97] at H
                  have c97b0 : decide (x81_3 < (t360.length : Int)) = true := decide_eq_true c97
                  clear c97
                  by_cases c98 : 0 ≤ x81_3
                  · rw [if_pos c98] at H
                    have c98b0 : decide (0 ≤ x81_3) = true := decide_eq_true c98
                    clear c98
                    by_cases c99 : x81_3 < (t360.length : Int)
                    · rw [if_pos c99] at H
                      have c99b0 : decide (x81_3 < (t360.length : Int)) = true := decide_eq_true c99
                      clear c99
                      by_cases c100 : x81_3 < (l0_3.length : Int)
                      · rw [if_pos c100] at H
                        have c100b0 : decide (x81_3 < (l0_3.length : Int)) = true := decide_eq_true c100
                        clear c100
                        by_cases c101 : (!(((rd_T41 t360 x81_3).f0) == ((rd_T41 l0_3 x81_3).f0)) || (!(((rd_T41 t360 x81_3).f1) == ((rd_T41 l0_3 x81_3).f1)))) = true
                        · rw [if_pos c101] at H
                          exact absurd H (by simp)
                        rw [if_neg c101] at H
                        have c101b0 : (!(((rd_T41 t360 x81_3).f0) == ((rd_T41 l0_3 x81_3).f0)) || (!(((rd_T41 t360 x81_3).f1) == ((rd_T41 l0_3 x81_3).f1)))) = false := by simpa using c101
                        clear c101
                        have H' := Aside0.mk H
                        clear H
                        try go_wp2
                        replace HO_366000 := Aside0.mk (Kd.V_drew HO_366000.out)
                        replace HO_366001 := Aside0.mk (Kd.V_drew HO_366001.out)
                        replace HO_366003 := Aside0.mk (Kd.V_drew HO_366003.out)
                        replace BK350 := Aside0.mk (blk_drew BK350.out)
                        replace BK365 := Aside0.mk (blk_drew BK365.out)
                        replace BK366 := Aside0.mk (blk_drew BK366.out)
                        replace BK372 := Aside0.mk (blk_drew BK372.out)
                        replace HB := Aside0.mk (below_drew1 HB.out)
                        have p373 : 0 ≤ (x81_3 : Int) := dT_
                        have q373 : x81_3 < (t360.length : Int) := dT_
                        obtain ⟨ad373, e373, hx373_0, hx373_1⟩ := at_T41 (Kd.V_reads' HO_366003.out).2.2 x81_3 p373 q373
                        cases e373
                        replace p373 := eq_true p373
                        replace q373 := eq_true q373
                        have p374 : 0 ≤ (x81_3 : Int) := dT_
                        have q374 : x81_3 < (l0_3.length : Int) := dT_
                        obtain ⟨ad374, e374, hx374_0, hx374_1⟩ := at_T41 HR0_3.out x81_3 p374 q374
                        have hw374_1 := hx374_1
                        have hw374_0 := hx374_0
                        cases e374
                        replace hx374_0 := hX_ hx374_0
                        replace hx374_1 := hX_ hx374_1
                        replace p374 := eq_true p374
                        replace q374 := eq_true q374
                        refine start_ (n := 11) (S := fun w' => w'.cell? ⟨gb365, 0, none⟩ = some (.slice Ao24 t353.length co24) ∧ w'.cell? ⟨gb365, 1, none⟩ = some (.slice Ao28 t356.length co28) ∧ w'.cell? ⟨gb365, 2, none⟩ = some (.int .u64 t359) ∧ w'.cell? ⟨gb365, 3, none⟩ = some (.slice (some ad373) t360.length co29) ∧ w'.cell? ⟨gb350, 0, none⟩ = some (.slice A0_0 l0_0.length c0_0) ∧ w'.cell? ⟨gb350, 1, none⟩ = some (.slice A0_1 l0_1.length c0_1) ∧ w'.cell? ⟨gb350, 2, none⟩ = some (.int .u64 a0_2) ∧ w'.cell? ⟨gb350, 3, none⟩ = some (.slice (some ad374) l0_3.length c0_3) ∧ w'.cell? (ad373.add ((x81_3).toNat * 2)) = some (.int .u32 ((rd_T41 t360 x81_3).f0)) ∧ w'.cell? ⟨(ad373.add ((x81_3).toNat * 2)).block, (ad373.add ((x81_3).toNat * 2)).off + 1, none⟩ = some (.int .i64 ((rd_T41 t360 x81_3).f1)) ∧ w'.cell? (ad374.add ((x81_3).toNat * 2)) = some (.int .u32 ((rd_T41 l0_3 x81_3).f0)) ∧ w'.cell? ⟨(ad374.add ((x81_3).toNat * 2)).block, (ad374.add ((x81_3).toNat * 2)).off + 1, none⟩ = some (.int .i64 ((rd_T41 l0_3 x81_3).f1))) (ds := []) (mb_ 11 0) (by kernel_rfl) rfl rfl ⟨(blk_cell BK365.out 0).trans rfl, (blk_cell BK365.out 1).trans rfl, (blk_cell BK365.out 2).trans rfl, (blk_cell BK365.out 3).trans rfl, (blk_cell BK350.out 0).trans rfl, (blk_cell BK350.out 1).trans rfl, (blk_cell BK350.out 2).trans rfl, (blk_cell BK350.out 3).trans rfl, hx373_0, hx373_1, ((HB.out.cell (World.block_lt_of_cell? w _ hw374_0)).trans hw374_0), ((HB.out.cell (World.block_lt_of_cell? w _ hw374_1)).trans hw374_1)⟩ (fun hHeld => ?_); refine with_tabW ferrylaw05_GmemBack.tab12 ferrylaw05_GmemBack.bits12 (fun HT_ HW_ => ?_)
                        generalize wr.drew = w102 at HO_366000 HO_366001 HO_366003 BK350 BK365 BK366 BK372 HB hx373_0 hx373_1 hx374_0 hx374_1 hHeld ⊢
                        refine pS_ 0 84 (mb_ 11 1) ?_
                        refine pS_ 2 86 (mb_ 11 5) ?_
                        refine pS_ 5 89 (mb_ 11 37) ?_
                        refine pS_ 7 91 (mb_ 11 165) ?_
                        refine t12S_ 1 85 (mb_ 11 167) ?_
                        refine pS_ 3 87 (mb_ 11 175) ?_
                        refine t12S_ 4 88 (mb_ 11 191) ?_
                        refine t12S_ 6 90 (mb_ 11 255) ?_
                        refine pS_ 8 92 (mb_ 11 511) ?_
                        refine t12S_ 9 93 (mb_ 11 1023) ?_
                        refine pS_ 10 94 (mb_ 11 2047) ?_
                        refine done_ (done_of HT_.out (by kernel_rfl)) ?_
                        try go_wp2
                        go_roundg k3
                        case measure => have := HJ4.out; have := HJ18.out; have := HK3.out; omega
                        case rel => exact ⟨(wrap64 (x81_3 + 1)), r1_, H', ⟨by have := HJ4.out; have := HJ18.out; have := HK3.out; omega⟩, ⟨vT_ HO_366000.out⟩, ⟨vT_ HO_366001.out⟩, ⟨vT_ HO_366003.out⟩, ⟨bT_ BK350.out⟩, ⟨bT_ BK365.out⟩, ⟨bT_ BK366.out⟩, ⟨bT_ BK372.out⟩, ⟨beT_⟩⟩
                      rw [if_neg c100] at H
                      exact absurd H (by simp)
                    rw [if_neg c99] at H
                    exact absurd H (by simp)
                  rw [if_neg c98] at H
                  exact absurd H (by simp)
                rw [if_neg c97] at H
                have c97b0 : decide (x81_3 < (t360.length : Int)) = false := decide_eq_false c97
                clear c97
                replace H := Option.bind_eq_some_iff.mp H
                obtain ⟨t375, A1030, H⟩ := H
                have A103 := Aside0.mk A1030
                clear A1030
                by_cases c104 : a3 ≥ t375
                · rw [if_pos c104] at H
                  have c104b0 : decide (t375 ≤ a3) = true := decide_eq_true c104
                  clear c104
                  by_cases c105 : (IntKind.u64.wrap (a3 - t375)) < (IntKind.u64.wrap ((a2.size : Int)))
                  · rw [if_pos c105] at H
                    have c105b0 : decide ((IntKind.u64.wrap (a3 - t375)) < (IntKind.u64.wrap ((a2.size : Int)))) = true := decide_eq_true c105
                    clear c105
                    replace H := Option.bind_eq_some_iff.mp H
                    obtain ⟨t376, A1060, H⟩ := H
                    have A106 := Aside0.mk A1060
                    clear A1060
                    by_cases c107 : t376 = true
                    · subst c107
                      replace H := hP_ H
                      replace H := Option.bind_eq_some_iff.mp H
                      obtain ⟨t377, A1080, H⟩ := H
                      have A108 := Aside0.mk A1080
                      clear A1080
                      obtain rfl := Option.some.inj H
                      have hnb109 := NB350_365.out
                      have hnc109 := NB365_350.out
                      have hnb110 := NB350_366.out
                      have hnc110 := NB366_350.out
                      have hnb111 := NB350_372.out
                      have hnc111 := NB372_350.out
                      obtain ⟨hcz112_0, hcz112_1, hcz112_2, hcz112_3, hfz112_0, hfz112_1, hfz112_2, hfz112_3⟩ := b4_ BK350.out
                      try go_wp2_with (first | ((with_reducible refine gate_callee (f := 14) rfl ?_); refine gL_ (some 98) Try.func14 #[.agg #[.slice A0_0 l0_0.length c0_0, .slice A0_1 l0_1.length c0_1, .int .u64 a0_2, .slice A0_3 l0_3.length c0_3], .int .u32 a1] ?_; (with_reducible refine (ferryref04_Place.calls _ _ l0_0 _ _ l0_1 a0_2 _ _ l0_3 a1 t375 _ ?side1 ?side2 ?side3 ?side4 ?side5 ?side6 A103.out).mono ?_); (case side1 => exact cT_ (Kd.C_below HR0_0.out HB.out)); (case side2 => exact HC0_0.out); (case side3 => exact cT_ (Kd.C_below HR0_1.out HB.out)); (case side4 => exact HC0_1.out); (case side5 => exact cT_ (Kd.C_below HR0_3.out HB.out)); (case side6 => exact HC0_3.out); rintro e w113 ⟨rfl, hb⟩; refine ⟨_, rfl, ?_⟩; replace HO_366000 := vB_ HO_366000.out hb; replace HO_366001 := vB_ HO_366001.out hb; replace HO_366003 := vB_ HO_366003.out hb; replace BK350 := kB_ BK350 hb; replace BK365 := kB_ BK365 hb; replace BK366 := kB_ BK366 hb; replace BK372 := kB_ BK372 hb; replace HB := hB_ hb; (try clear hb); (try clear hb2); (try clear hk); (try clear hi)))
                      replace HO_366000 := Aside0.mk (Kd.V_drew HO_366000.out)
                      replace HO_366001 := Aside0.mk (Kd.V_drew HO_366001.out)
                      replace HO_366003 := Aside0.mk (Kd.V_drew HO_366003.out)
                      replace BK350 := Aside0.mk (blk_drew BK350.out)
                      replace BK365 := Aside0.mk (blk_drew BK365.out)
                      replace BK366 := Aside0.mk (blk_drew BK366.out)
                      replace BK372 := Aside0.mk (blk_drew BK372.out)
                      replace HB := Aside0.mk (below_drew1 HB.out)
                      refine start_ (n := 31) (S := fun w' => w'.cell? ⟨gb365, 0, none⟩ = some (.slice Ao24 t353.length co24) ∧ w'.cell? ⟨gb365, 1, none⟩ = some (.slice Ao28 t356.length co28) ∧ w'.cell? ⟨gb365, 2, none⟩ = some (.int .u64 t359) ∧ w'.cell? ⟨gb365, 3, none⟩ = some (.slice Ao29 t360.length co29)) (ds := []) (mb_ 31 0) (by kernel_rfl) rfl rfl ⟨(blk_cell BK365.out 0).trans rfl, (blk_cell BK365.out 1).trans rfl, (blk_cell BK365.out 2).trans rfl, (blk_cell BK365.out 3).trans rfl⟩ (fun hHeld => ?_); refine with_tabW ferrylaw05_GmemBack.tab16 ferrylaw05_GmemBack.bits16 (fun HT_ HW_ => ?_)
                      generalize w113.drew = w114 at HO_366000 HO_366001 HO_366003 BK350 BK365 BK366 BK372 HB hHeld ⊢
                      refine pS_ 0 99 (mb_ 31 1) ?_
                      refine pS_ 1 100 (mb_ 31 3) ?_
                      refine pS_ 2 101 (mb_ 31 7) ?_
                      refine pS_ 3 102 (mb_ 31 15) ?_
                      refine pS_ 4 103 (mb_ 31 31) ?_
                      refine pS_ 5 104 (mb_ 31 63) ?_
                      refine pS_ 6 105 (mb_ 31 127) ?_
                      refine pS_ 7 106 (mb_ 31 255) ?_
                      refine pS_ 8 107 (mb_ 31 511) ?_
                      refine pS_ 9 108 (mb_ 31 1023) ?_
                      refine pS_ 10 109 (mb_ 31 2047) ?_
                      refine pS_ 11 110 (mb_ 31 4095) ?_
                      refine pS_ 12 111 (mb_ 31 8191) ?_
                      refine uS_ 13 112 (mb_ 31 16383) ?_
                      refine uS_ 14 113 (mb_ 31 32767) ?_
                      refine uS_ 15 114 (mb_ 31 65535) ?_
                      refine uS_ 16 115 (mb_ 31 131071) ?_
                      refine uS_ 17 116 (mb_ 31 262143) ?_
                      refine uS_ 18 117 (mb_ 31 524287) ?_
                      refine uS_ 19 118 (mb_ 31 1048575) ?_
                      refine uS_ 20 119 (mb_ 31 2097151) ?_
                      refine uS_ 21 120 (mb_ 31 4194303) ?_
                      refine pS_ 22 121 (mb_ 31 8388607) ?_
                      refine pS_ 23 122 (mb_ 31 16777215) ?_
                      refine t4S_ 24 123 (mb_ 31 33554431) ?_
                      refine one_ (i := 25) (N := some 124) (mb_ 31 67108863) rfl rfl (one_of HT_.out (by kernel_rfl)) (by decide) (fun K hK => ?_)
                      refine goes_ Try.func16 (by kernel_rfl) rfl #[.agg #[.slice Ao24 t353.length co24, .slice Ao28 t356.length co28, .int .u64 t359, .slice Ao29 t360.length co29]] (by rfl) rfl rfl aT_ ?_
                      with_reducible refine (ferryref04_Fit.calls k3 _ _ t353 _ _ t356 t359 _ _ t360 true _ ?side1 ?side2 ?side3 ?side4 ?side5 ?side6 A106.out).mono ?_
                      (case side1 => exact cT_ (Kd.V_reads' HO_366000.out).2.2)
                      (case side2 => exact (Kd.V_reads' HO_366000.out).2.1)
                      (case side3 => exact cT_ (Kd.V_reads' HO_366001.out).2.2)
                      (case side4 => exact (Kd.V_reads' HO_366001.out).2.1)
                      (case side5 => exact cT_ (Kd.V_reads' HO_366003.out).2.2)
                      (case side6 => exact (Kd.V_reads' HO_366003.out).2.1)
                      rintro e w115 ⟨rfl, hb⟩
                      refine ⟨_, rfl, ?_⟩
                      replace HO_366000 := vB_ HO_366000.out hb
                      replace HO_366001 := vB_ HO_366001.out hb
                      replace HO_366003 := vB_ HO_366003.out hb
                      replace BK350 := kB_ BK350 hb
                      replace BK365 := kB_ BK365 hb
                      replace BK366 := kB_ BK366 hb
                      replace BK372 := kB_ BK372 hb
                      replace HB := hB_ hb
                      (try clear hb)
                      (try clear hb2)
                      (try clear hk)
                      (try clear hi)
                      refine hK.out _ _ ⟨(blk_cell BK365.out 0).trans rfl, (blk_cell BK365.out 1).trans rfl, (blk_cell BK365.out 2).trans rfl, (blk_cell BK365.out 3).trans rfl⟩ (fun hHeld => ?_)
                      clear hK K
                      refine nS_ ?_
                      refine pS_ 26 125 (mb_ 31 134217727) ?_
                      refine pS_ 27 126 (mb_ 31 268435455) ?_
                      refine one_ (i := 28) (N := some 127) (mb_ 31 536870911) rfl rfl (one_of HT_.out (by kernel_rfl)) (by decide) (fun K hK => ?_)
                      refine goes_ Try.func10 (by kernel_rfl) rfl #[] (by rfl) rfl rfl aT_ ?_
                      with_reducible refine (ferrylaw05_awake.calls k3  t377 _ A108.out).mono ?_
                      rintro e w116 ⟨rfl, hb⟩
                      refine ⟨_, rfl, ?_⟩
                      replace HO_366000 := vB_ HO_366000.out hb
                      replace HO_366001 := vB_ HO_366001.out hb
                      replace HO_366003 := vB_ HO_366003.out hb
                      replace BK350 := kB_ BK350 hb
                      replace BK365 := kB_ BK365 hb
                      replace BK366 := kB_ BK366 hb
                      replace BK372 := kB_ BK372 hb
                      replace HB := hB_ hb
                      (try clear hb)
                      (try clear hb2)
                      (try clear hk)
                      (try clear hi)
                      refine hK.out _ _ ⟨(blk_cell BK365.out 0).trans rfl, (blk_cell BK365.out 1).trans rfl, (blk_cell BK365.out 2).trans rfl, (blk_cell BK365.out 3).trans rfl⟩ (fun hHeld => ?_)
                      clear hK K
                      refine nS_ ?_
                      refine pS_ 29 128 (mb_ 31 1073741823) ?_
                      refine pS_ 30 8 (mb_ 31 2147483647) ?_
                      refine done_ (done_of HT_.out (by kernel_rfl)) ?_
                      try go_wp2
                      go_ret
                      exact ⟨r3_, beT_⟩
                    replace c107 := Bool.eq_false_iff.mpr c107
                    subst c107
                    replace H := hN_ H
                    exact absurd H (by simp)
                  rw [if_neg c105] at H
                  have c105b0 : decide ((IntKind.u64.wrap (a3 - t375)) < (IntKind.u64.wrap ((a2.size : Int)))) = false := decide_eq_false c105
                  clear c105
                  replace H := Option.bind_eq_some_iff.mp H
                  obtain ⟨t378, A1170, H⟩ := H
                  have A117 := Aside0.mk A1170
                  clear A1170
                  replace H := Option.bind_eq_some_iff.mp H
                  obtain ⟨t379, A1180, H⟩ := H
                  have A118 := Aside0.mk A1180
                  clear A1180
                  by_cases c119 : t378 = t379
                  · rw [if_pos c119] at H
                    have c119b0 : (t378 == t379) = true := beq_iff_eq.mpr c119
                    have c119b1 : (t378 != t379) = false := bne_eq_false_iff_eq.mpr c119
                    clear c119
                    replace H := Option.bind_eq_some_iff.mp H
                    obtain ⟨t380, A1200, H⟩ := H
                    have A120 := Aside0.mk A1200
                    clear A1200
                    by_cases c121 : t380 = true
                    · subst c121
                      replace H := hP_ H
                      replace H := Option.bind_eq_some_iff.mp H
                      obtain ⟨t381, A1220, H⟩ := H
                      have A122 := Aside0.mk A1220
                      clear A1220
                      obtain rfl := Option.some.inj H
                      have hnb123 := NB350_365.out
                      have hnc123 := NB365_350.out
                      have hnb124 := NB350_366.out
                      have hnc124 := NB366_350.out
                      have hnb125 := NB350_372.out
                      have hnc125 := NB372_350.out
                      obtain ⟨hcz126_0, hcz126_1, hcz126_2, hcz126_3, hfz126_0, hfz126_1, hfz126_2, hfz126_3⟩ := b4_ BK350.out
                      try go_wp2_with (first | ((with_reducible refine gate_callee (f := 14) rfl ?_); refine gL_ (some 98) Try.func14 #[.agg #[.slice A0_0 l0_0.length c0_0, .slice A0_1 l0_1.length c0_1, .int .u64 a0_2, .slice A0_3 l0_3.length c0_3], .int .u32 a1] ?_; (with_reducible refine (ferryref04_Place.calls _ _ l0_0 _ _ l0_1 a0_2 _ _ l0_3 a1 t375 _ ?side1 ?side2 ?side3 ?side4 ?side5 ?side6 A103.out).mono ?_); (case side1 => exact cT_ (Kd.C_below HR0_0.out HB.out)); (case side2 => exact HC0_0.out); (case side3 => exact cT_ (Kd.C_below HR0_1.out HB.out)); (case side4 => exact HC0_1.out); (case side5 => exact cT_ (Kd.C_below HR0_3.out HB.out)); (case side6 => exact HC0_3.out); rintro e w127 ⟨rfl, hb⟩; refine ⟨_, rfl, ?_⟩; replace HO_366000 := vB_ HO_366000.out hb; replace HO_366001 := vB_ HO_366001.out hb; replace HO_366003 := vB_ HO_366003.out hb; replace BK350 := kB_ BK350 hb; replace BK365 := kB_ BK365 hb; replace BK366 := kB_ BK366 hb; replace BK372 := kB_ BK372 hb; replace HB := hB_ hb; (try clear hb); (try clear hb2); (try clear hk); (try clear hi)))
                      replace HO_366000 := Aside0.mk (Kd.V_drew HO_366000.out)
                      replace HO_366001 := Aside0.mk (Kd.V_drew HO_366001.out)
                      replace HO_366003 := Aside0.mk (Kd.V_drew HO_366003.out)
                      replace BK350 := Aside0.mk (blk_drew BK350.out)
                      replace BK365 := Aside0.mk (blk_drew BK365.out)
                      replace BK366 := Aside0.mk (blk_drew BK366.out)
                      replace BK372 := Aside0.mk (blk_drew BK372.out)
                      replace HB := Aside0.mk (below_drew1 HB.out)
                      refine start_ (n := 31) (S := fun w' => w'.cell? ⟨gb365, 0, none⟩ = some (.slice Ao24 t353.length co24) ∧ w'.cell? ⟨gb365, 1, none⟩ = some (.slice Ao28 t356.length co28) ∧ w'.cell? ⟨gb365, 2, none⟩ = some (.int .u64 t359) ∧ w'.cell? ⟨gb365, 3, none⟩ = some (.slice Ao29 t360.length co29) ∧ w'.cell? ⟨gb350, 0, none⟩ = some (.slice A0_0 l0_0.length c0_0) ∧ w'.cell? ⟨gb350, 1, none⟩ = some (.slice A0_1 l0_1.length c0_1) ∧ w'.cell? ⟨gb350, 2, none⟩ = some (.int .u64 a0_2) ∧ w'.cell? ⟨gb350, 3, none⟩ = some (.slice A0_3 l0_3.length c0_3)) (ds := []) (mb_ 31 0) (by kernel_rfl) rfl rfl ⟨(blk_cell BK365.out 0).trans rfl, (blk_cell BK365.out 1).trans rfl, (blk_cell BK365.out 2).trans rfl, (blk_cell BK365.out 3).trans rfl, (blk_cell BK350.out 0).trans rfl, (blk_cell BK350.out 1).trans rfl, (blk_cell BK350.out 2).trans rfl, (blk_cell BK350.out 3).trans rfl⟩ (fun hHeld => ?_); refine with_tabW ferrylaw05_GmemBack.tab16 ferrylaw05_GmemBack.bits16 (fun HT_ HW_ => ?_)
                      generalize w127.drew = w128 at HO_366000 HO_366001 HO_366003 BK350 BK365 BK366 BK372 HB hHeld ⊢
                      refine pS_ 0 99 (mb_ 31 1) ?_
                      refine pS_ 1 100 (mb_ 31 3) ?_
                      refine pS_ 2 101 (mb_ 31 7) ?_
                      refine pS_ 3 102 (mb_ 31 15) ?_
                      refine pS_ 4 103 (mb_ 31 31) ?_
                      refine pS_ 5 104 (mb_ 31 63) ?_
                      refine pS_ 6 105 (mb_ 31 127) ?_
                      refine pS_ 7 106 (mb_ 31 255) ?_
                      refine pS_ 8 107 (mb_ 31 511) ?_
                      refine pS_ 9 108 (mb_ 31 1023) ?_
                      refine pS_ 10 109 (mb_ 31 2047) ?_
                      refine pS_ 11 110 (mb_ 31 4095) ?_
                      refine pS_ 12 111 (mb_ 31 8191) ?_
                      refine pS_ 13 112 (mb_ 31 16383) ?_
                      refine pS_ 15 114 (mb_ 31 49151) ?_
                      refine pS_ 17 116 (mb_ 31 180223) ?_
                      refine pS_ 19 118 (mb_ 31 704511) ?_
                      refine t8S_ 14 113 (mb_ 31 720895) ?_
                      refine t8S_ 18 117 (mb_ 31 983039) ?_
                      refine one_ (i := 16) (N := some 115) (mb_ 31 1048575) rfl rfl (one_of HT_.out (by kernel_rfl)) (by decide) (fun K hK => ?_)
                      refine goes_ Try.func15 (by kernel_rfl) rfl #[.agg #[.slice Ao24 t353.length co24, .slice Ao28 t356.length co28], .int .u64 a3] (by rfl) rfl rfl aT_ ?_
                      with_reducible refine (ferryref03_Peek.calls k3 _ _ t353 _ _ t356 a3 t378 _ ?side1 ?side2 ?side3 ?side4 A117.out).mono ?_
                      (case side1 => exact cT_ (Kd.V_reads' HO_366000.out).2.2)
                      (case side2 => exact (Kd.V_reads' HO_366000.out).2.1)
                      (case side3 => exact cT_ (Kd.V_reads' HO_366001.out).2.2)
                      (case side4 => exact (Kd.V_reads' HO_366001.out).2.1)
                      rintro e w129 ⟨rfl, hb⟩
                      refine ⟨_, rfl, ?_⟩
                      replace HO_366000 := vB_ HO_366000.out hb
                      replace HO_366001 := vB_ HO_366001.out hb
                      replace HO_366003 := vB_ HO_366003.out hb
                      replace BK350 := kB_ BK350 hb
                      replace BK365 := kB_ BK365 hb
                      replace BK366 := kB_ BK366 hb
                      replace BK372 := kB_ BK372 hb
                      replace HB := hB_ hb
                      (try clear hb)
                      (try clear hb2)
                      (try clear hk)
                      (try clear hi)
                      refine hK.out _ _ ⟨(blk_cell BK365.out 0).trans rfl, (blk_cell BK365.out 1).trans rfl, (blk_cell BK365.out 2).trans rfl, (blk_cell BK365.out 3).trans rfl, (blk_cell BK350.out 0).trans rfl, (blk_cell BK350.out 1).trans rfl, (blk_cell BK350.out 2).trans rfl, (blk_cell BK350.out 3).trans rfl⟩ (fun hHeld => ?_)
                      clear hK K
                      refine nS_ ?_
                      refine one_ (i := 20) (N := some 119) (mb_ 31 2097151) rfl rfl (one_of HT_.out (by kernel_rfl)) (by decide) (fun K hK => ?_)
                      refine goes_ Try.func15 (by kernel_rfl) rfl #[.agg #[.slice A0_0 l0_0.length c0_0, .slice A0_1 l0_1.length c0_1], .int .u64 a3] (by rfl) rfl rfl aT_ ?_
                      with_reducible refine (ferryref03_Peek.calls k3 _ _ l0_0 _ _ l0_1 a3 t379 _ ?side1 ?side2 ?side3 ?side4 A118.out).mono ?_
                      (case side1 => exact cT_ (Kd.C_below HR0_0.out HB.out))
                      (case side2 => exact HC0_0.out)
                      (case side3 => exact cT_ (Kd.C_below HR0_1.out HB.out))
                      (case side4 => exact HC0_1.out)
                      rintro e w130 ⟨rfl, hb⟩
                      refine ⟨_, rfl, ?_⟩
                      replace HO_366000 := vB_ HO_366000.out hb
                      replace HO_366001 := vB_ HO_366001.out hb
                      replace HO_366003 := vB_ HO_366003.out hb
                      replace BK350 := kB_ BK350 hb
                      replace BK365 := kB_ BK365 hb
                      replace BK366 := kB_ BK366 hb
                      replace BK372 := kB_ BK372 hb
                      replace HB := hB_ hb
                      (try clear hb)
                      (try clear hb2)
                      (try clear hk)
                      (try clear hi)
                      refine hK.out _ _ ⟨(blk_cell BK365.out 0).trans rfl, (blk_cell BK365.out 1).trans rfl, (blk_cell BK365.out 2).trans rfl, (blk_cell BK365.out 3).trans rfl, (blk_cell BK350.out 0).trans rfl, (blk_cell BK350.out 1).trans rfl, (blk_cell BK350.out 2).trans rfl, (blk_cell BK350.out 3).trans rfl⟩ (fun hHeld => ?_)
                      clear hK K
                      refine nS_ ?_
                      refine pS_ 21 120 (mb_ 31 4194303) ?_
                      refine pS_ 22 121 (mb_ 31 8388607) ?_
                      refine pS_ 23 122 (mb_ 31 16777215) ?_
                      refine t8S_ 24 123 (mb_ 31 33554431) ?_
                      refine one_ (i := 25) (N := some 124) (mb_ 31 67108863) rfl rfl (one_of HT_.out (by kernel_rfl)) (by decide) (fun K hK => ?_)
                      refine goes_ Try.func16 (by kernel_rfl) rfl #[.agg #[.slice Ao24 t353.length co24, .slice Ao28 t356.length co28, .int .u64 t359, .slice Ao29 t360.length co29]] (by rfl) rfl rfl aT_ ?_
                      with_reducible refine (ferryref04_Fit.calls k3 _ _ t353 _ _ t356 t359 _ _ t360 true _ ?side1 ?side2 ?side3 ?side4 ?side5 ?side6 A120.out).mono ?_
                      (case side1 => exact cT_ (Kd.V_reads' HO_366000.out).2.2)
                      (case side2 => exact (Kd.V_reads' HO_366000.out).2.1)
                      (case side3 => exact cT_ (Kd.V_reads' HO_366001.out).2.2)
                      (case side4 => exact (Kd.V_reads' HO_366001.out).2.1)
                      (case side5 => exact cT_ (Kd.V_reads' HO_366003.out).2.2)
                      (case side6 => exact (Kd.V_reads' HO_366003.out).2.1)
                      rintro e w131 ⟨rfl, hb⟩
                      refine ⟨_, rfl, ?_⟩
                      replace HO_366000 := vB_ HO_366000.out hb
                      replace HO_366001 := vB_ HO_366001.out hb
                      replace HO_366003 := vB_ HO_366003.out hb
                      replace BK350 := kB_ BK350 hb
                      replace BK365 := kB_ BK365 hb
                      replace BK366 := kB_ BK366 hb
                      replace BK372 := kB_ BK372 hb
                      replace HB := hB_ hb
                      (try clear hb)
                      (try clear hb2)
                      (try clear hk)
                      (try clear hi)
                      refine hK.out _ _ ⟨(blk_cell BK365.out 0).trans rfl, (blk_cell BK365.out 1).trans rfl, (blk_cell BK365.out 2).trans rfl, (blk_cell BK365.out 3).trans rfl, (blk_cell BK350.out 0).trans rfl, (blk_cell BK350.out 1).trans rfl, (blk_cell BK350.out 2).trans rfl, (blk_cell BK350.out 3).trans rfl⟩ (fun hHeld => ?_)
                      clear hK K
                      refine nS_ ?_
                      refine pS_ 26 125 (mb_ 31 134217727) ?_
                      refine pS_ 27 126 (mb_ 31 268435455) ?_
                      refine one_ (i := 28) (N := some 127) (mb_ 31 536870911) rfl rfl (one_of HT_.out (by kernel_rfl)) (by decide) (fun K hK => ?_)
                      refine goes_ Try.func10 (by kernel_rfl) rfl #[] (by rfl) rfl rfl aT_ ?_
                      with_reducible refine (ferrylaw05_awake.calls k3  t381 _ A122.out).mono ?_
                      rintro e w132 ⟨rfl, hb⟩
                      refine ⟨_, rfl, ?_⟩
                      replace HO_366000 := vB_ HO_366000.out hb
                      replace HO_366001 := vB_ HO_366001.out hb
                      replace HO_366003 := vB_ HO_366003.out hb
                      replace BK350 := kB_ BK350 hb
                      replace BK365 := kB_ BK365 hb
                      replace BK366 := kB_ BK366 hb
                      replace BK372 := kB_ BK372 hb
                      replace HB := hB_ hb
                      (try clear hb)
                      (try clear hb2)
                      (try clear hk)
                      (try clear hi)
                      refine hK.out _ _ ⟨(blk_cell BK365.out 0).trans rfl, (blk_cell BK365.out 1).trans rfl, (blk_cell BK365.out 2).trans rfl, (blk_cell BK365.out 3).trans rfl, (blk_cell BK350.out 0).trans rfl, (blk_cell BK350.out 1).trans rfl, (blk_cell BK350.out 2).trans rfl, (blk_cell BK350.out 3).trans rfl⟩ (fun hHeld => ?_)
                      clear hK K
                      refine nS_ ?_
                      refine pS_ 29 128 (mb_ 31 1073741823) ?_
                      refine pS_ 30 8 (mb_ 31 2147483647) ?_
                      refine done_ (done_of HT_.out (by kernel_rfl)) ?_
                      try go_wp2
                      go_ret
                      exact ⟨r3_, beT_⟩
                    replace c121 := Bool.eq_false_iff.mpr c121
                    subst c121
                    replace H := hN_ H
                    exact absurd H (by simp)
                  rw [if_neg c119] at H
                  have c119b0 : (t378 == t379) = false := beq_eq_false_iff_ne.mpr c119
                  have c119b1 : (t378 != t379) = true := bne_iff_ne.mpr c119
                  exact absurd H (by simp)
                rw [if_neg c104] at H
                have c104b0 : decide (t375 ≤ a3) = false := decide_eq_false c104
                clear c104
                replace H := Option.bind_eq_some_iff.mp H
                obtain ⟨t382, A1330, H⟩ := H
                have A133 := Aside0.mk A1330
                clear A1330
                replace H := Option.bind_eq_some_iff.mp H
                obtain ⟨t383, A1340, H⟩ := H
                have A134 := Aside0.mk A1340
                clear A1340
                by_cases c135 : t382 = t383
                · rw [if_pos c135] at H
                  have c135b0 : (t382 == t383) = true := beq_iff_eq.mpr c135
                  have c135b1 : (t382 != t383) = false := bne_eq_false_iff_eq.mpr c135
                  clear c135
                  replace H := Option.bind_eq_some_iff.mp H
                  obtain ⟨t384, A1360, H⟩ := H
                  have A136 := Aside0.mk A1360
                  clear A1360
                  by_cases c137 : t384 = true
                  · subst c137
                    replace H := hP_ H
                    replace H := Option.bind_eq_some_iff.mp H
                    obtain ⟨t385, A1380, H⟩ := H
                    have A138 := Aside0.mk A1380
                    clear A1380
                    obtain rfl := Option.some.inj H
                    have hnb139 := NB350_365.out
                    have hnc139 := NB365_350.out
                    have hnb140 := NB350_366.out
                    have hnc140 := NB366_350.out
                    have hnb141 := NB350_372.out
                    have hnc141 := NB372_350.out
                    obtain ⟨hcz142_0, hcz142_1, hcz142_2, hcz142_3, hfz142_0, hfz142_1, hfz142_2, hfz142_3⟩ := b4_ BK350.out
                    try go_wp2_with (first | ((with_reducible refine gate_callee (f := 14) rfl ?_); refine gL_ (some 98) Try.func14 #[.agg #[.slice A0_0 l0_0.length c0_0, .slice A0_1 l0_1.length c0_1, .int .u64 a0_2, .slice A0_3 l0_3.length c0_3], .int .u32 a1] ?_; (with_reducible refine (ferryref04_Place.calls _ _ l0_0 _ _ l0_1 a0_2 _ _ l0_3 a1 t375 _ ?side1 ?side2 ?side3 ?side4 ?side5 ?side6 A103.out).mono ?_); (case side1 => exact cT_ (Kd.C_below HR0_0.out HB.out)); (case side2 => exact HC0_0.out); (case side3 => exact cT_ (Kd.C_below HR0_1.out HB.out)); (case side4 => exact HC0_1.out); (case side5 => exact cT_ (Kd.C_below HR0_3.out HB.out)); (case side6 => exact HC0_3.out); rintro e w143 ⟨rfl, hb⟩; refine ⟨_, rfl, ?_⟩; replace HO_366000 := vB_ HO_366000.out hb; replace HO_366001 := vB_ HO_366001.out hb; replace HO_366003 := vB_ HO_366003.out hb; replace BK350 := kB_ BK350 hb; replace BK365 := kB_ BK365 hb; replace BK366 := kB_ BK366 hb; replace BK372 := kB_ BK372 hb; replace HB := hB_ hb; (try clear hb); (try clear hb2); (try clear hk); (try clear hi)))
                    replace HO_366000 := Aside0.mk (Kd.V_drew HO_366000.out)
                    replace HO_366001 := Aside0.mk (Kd.V_drew HO_366001.out)
                    replace HO_366003 := Aside0.mk (Kd.V_drew HO_366003.out)
                    replace BK350 := Aside0.mk (blk_drew BK350.out)
                    replace BK365 := Aside0.mk (blk_drew BK365.out)
                    replace BK366 := Aside0.mk (blk_drew BK366.out)
                    replace BK372 := Aside0.mk (blk_drew BK372.out)
                    replace HB := Aside0.mk (below_drew1 HB.out)
                    refine start_ (n := 31) (S := fun w' => w'.cell? ⟨gb365, 0, none⟩ = some (.slice Ao24 t353.length co24) ∧ w'.cell? ⟨gb365, 1, none⟩ = some (.slice Ao28 t356.length co28) ∧ w'.cell? ⟨gb365, 2, none⟩ = some (.int .u64 t359) ∧ w'.cell? ⟨gb365, 3, none⟩ = some (.slice Ao29 t360.length co29) ∧ w'.cell? ⟨gb350, 0, none⟩ = some (.slice A0_0 l0_0.length c0_0) ∧ w'.cell? ⟨gb350, 1, none⟩ = some (.slice A0_1 l0_1.length c0_1) ∧ w'.cell? ⟨gb350, 2, none⟩ = some (.int .u64 a0_2) ∧ w'.cell? ⟨gb350, 3, none⟩ = some (.slice A0_3 l0_3.length c0_3)) (ds := []) (mb_ 31 0) (by kernel_rfl) rfl rfl ⟨(blk_cell BK365.out 0).trans rfl, (blk_cell BK365.out 1).trans rfl, (blk_cell BK365.out 2).trans rfl, (blk_cell BK365.out 3).trans rfl, (blk_cell BK350.out 0).trans rfl, (blk_cell BK350.out 1).trans rfl, (blk_cell BK350.out 2).trans rfl, (blk_cell BK350.out 3).trans rfl⟩ (fun hHeld => ?_); refine with_tabW ferrylaw05_GmemBack.tab16 ferrylaw05_GmemBack.bits16 (fun HT_ HW_ => ?_)
                    generalize w143.drew = w144 at HO_366000 HO_366001 HO_366003 BK350 BK365 BK366 BK372 HB hHeld ⊢
                    refine pS_ 0 99 (mb_ 31 1) ?_
                    refine pS_ 1 100 (mb_ 31 3) ?_
                    refine pS_ 2 101 (mb_ 31 7) ?_
                    refine pS_ 3 102 (mb_ 31 15) ?_
                    refine uS_ 4 103 (mb_ 31 31) ?_
                    refine uS_ 5 104 (mb_ 31 63) ?_
                    refine uS_ 6 105 (mb_ 31 127) ?_
                    refine uS_ 7 106 (mb_ 31 255) ?_
                    refine uS_ 8 107 (mb_ 31 511) ?_
                    refine uS_ 9 108 (mb_ 31 1023) ?_
                    refine uS_ 10 109 (mb_ 31 2047) ?_
                    refine pS_ 11 110 (mb_ 31 4095) ?_
                    refine pS_ 12 111 (mb_ 31 8191) ?_
                    refine pS_ 13 112 (mb_ 31 16383) ?_
                    refine pS_ 15 114 (mb_ 31 49151) ?_
                    refine pS_ 17 116 (mb_ 31 180223) ?_
                    refine pS_ 19 118 (mb_ 31 704511) ?_
                    refine t8S_ 14 113 (mb_ 31 720895) ?_
                    refine t8S_ 18 117 (mb_ 31 983039) ?_
                    refine one_ (i := 16) (N := some 115) (mb_ 31 1048575) rfl rfl (one_of HT_.out (by kernel_rfl)) (by decide) (fun K hK => ?_)
                    refine goes_ Try.func15 (by kernel_rfl) rfl #[.agg #[.slice Ao24 t353.length co24, .slice Ao28 t356.length co28], .int .u64 a3] (by rfl) rfl rfl aT_ ?_
                    with_reducible refine (ferryref03_Peek.calls k3 _ _ t353 _ _ t356 a3 t382 _ ?side1 ?side2 ?side3 ?side4 A133.out).mono ?_
                    (case side1 => exact cT_ (Kd.V_reads' HO_366000.out).2.2)
                    (case side2 => exact (Kd.V_reads' HO_366000.out).2.1)
                    (case side3 => exact cT_ (Kd.V_reads' HO_366001.out).2.2)
                    (case side4 => exact (Kd.V_reads' HO_366001.out).2.1)
                    rintro e w145 ⟨rfl, hb⟩
                    refine ⟨_, rfl, ?_⟩
                    replace HO_366000 := vB_ HO_366000.out hb
                    replace HO_366001 := vB_ HO_366001.out hb
                    replace HO_366003 := vB_ HO_366003.out hb
                    replace BK350 := kB_ BK350 hb
                    replace BK365 := kB_ BK365 hb
                    replace BK366 := kB_ BK366 hb
                    replace BK372 := kB_ BK372 hb
                    replace HB := hB_ hb
                    (try clear hb)
                    (try clear hb2)
                    (try clear hk)
                    (try clear hi)
                    refine hK.out _ _ ⟨(blk_cell BK365.out 0).trans rfl, (blk_cell BK365.out 1).trans rfl, (blk_cell BK365.out 2).trans rfl, (blk_cell BK365.out 3).trans rfl, (blk_cell BK350.out 0).trans rfl, (blk_cell BK350.out 1).trans rfl, (blk_cell BK350.out 2).trans rfl, (blk_cell BK350.out 3).trans rfl⟩ (fun hHeld => ?_)
                    clear hK K
                    refine nS_ ?_
                    refine one_ (i := 20) (N := some 119) (mb_ 31 2097151) rfl rfl (one_of HT_.out (by kernel_rfl)) (by decide) (fun K hK => ?_)
                    refine goes_ Try.func15 (by kernel_rfl) rfl #[.agg #[.slice A0_0 l0_0.length c0_0, .slice A0_1 l0_1.length c0_1], .int .u64 a3] (by rfl) rfl rfl aT_ ?_
                    with_reducible refine (ferryref03_Peek.calls k3 _ _ l0_0 _ _ l0_1 a3 t383 _ ?side1 ?side2 ?side3 ?side4 A134.out).mono ?_
                    (case side1 => exact cT_ (Kd.C_below HR0_0.out HB.out))
                    (case side2 => exact HC0_0.out)
                    (case side3 => exact cT_ (Kd.C_below HR0_1.out HB.out))
                    (case side4 => exact HC0_1.out)
                    rintro e w146 ⟨rfl, hb⟩
                    refine ⟨_, rfl, ?_⟩
                    replace HO_366000 := vB_ HO_366000.out hb
                    replace HO_366001 := vB_ HO_366001.out hb
                    replace HO_366003 := vB_ HO_366003.out hb
                    replace BK350 := kB_ BK350 hb
                    replace BK365 := kB_ BK365 hb
                    replace BK366 := kB_ BK366 hb
                    replace BK372 := kB_ BK372 hb
                    replace HB := hB_ hb
                    (try clear hb)
                    (try clear hb2)
                    (try clear hk)
                    (try clear hi)
                    refine hK.out _ _ ⟨(blk_cell BK365.out 0).trans rfl, (blk_cell BK365.out 1).trans rfl, (blk_cell BK365.out 2).trans rfl, (blk_cell BK365.out 3).trans rfl, (blk_cell BK350.out 0).trans rfl, (blk_cell BK350.out 1).trans rfl, (blk_cell BK350.out 2).trans rfl, (blk_cell BK350.out 3).trans rfl⟩ (fun hHeld => ?_)
                    clear hK K
                    refine nS_ ?_
                    refine pS_ 21 120 (mb_ 31 4194303) ?_
                    refine pS_ 22 121 (mb_ 31 8388607) ?_
                    refine pS_ 23 122 (mb_ 31 16777215) ?_
                    refine t8S_ 24 123 (mb_ 31 33554431) ?_
                    refine one_ (i := 25) (N := some 124) (mb_ 31 67108863) rfl rfl (one_of HT_.out (by kernel_rfl)) (by decide) (fun K hK => ?_)
                    refine goes_ Try.func16 (by kernel_rfl) rfl #[.agg #[.slice Ao24 t353.length co24, .slice Ao28 t356.length co28, .int .u64 t359, .slice Ao29 t360.length co29]] (by rfl) rfl rfl aT_ ?_
                    with_reducible refine (ferryref04_Fit.calls k3 _ _ t353 _ _ t356 t359 _ _ t360 true _ ?side1 ?side2 ?side3 ?side4 ?side5 ?side6 A136.out).mono ?_
                    (case side1 => exact cT_ (Kd.V_reads' HO_366000.out).2.2)
                    (case side2 => exact (Kd.V_reads' HO_366000.out).2.1)
                    (case side3 => exact cT_ (Kd.V_reads' HO_366001.out).2.2)
                    (case side4 => exact (Kd.V_reads' HO_366001.out).2.1)
                    (case side5 => exact cT_ (Kd.V_reads' HO_366003.out).2.2)
                    (case side6 => exact (Kd.V_reads' HO_366003.out).2.1)
                    rintro e w147 ⟨rfl, hb⟩
                    refine ⟨_, rfl, ?_⟩
                    replace HO_366000 := vB_ HO_366000.out hb
                    replace HO_366001 := vB_ HO_366001.out hb
                    replace HO_366003 := vB_ HO_366003.out hb
                    replace BK350 := kB_ BK350 hb
                    replace BK365 := kB_ BK365 hb
                    replace BK366 := kB_ BK366 hb
                    replace BK372 := kB_ BK372 hb
                    replace HB := hB_ hb
                    (try clear hb)
                    (try clear hb2)
                    (try clear hk)
                    (try clear hi)
                    refine hK.out _ _ ⟨(blk_cell BK365.out 0).trans rfl, (blk_cell BK365.out 1).trans rfl, (blk_cell BK365.out 2).trans rfl, (blk_cell BK365.out 3).trans rfl, (blk_cell BK350.out 0).trans rfl, (blk_cell BK350.out 1).trans rfl, (blk_cell BK350.out 2).trans rfl, (blk_cell BK350.out 3).trans rfl⟩ (fun hHeld => ?_)
                    clear hK K
                    refine nS_ ?_
                    refine pS_ 26 125 (mb_ 31 134217727) ?_
                    refine pS_ 27 126 (mb_ 31 268435455) ?_
                    refine one_ (i := 28) (N := some 127) (mb_ 31 536870911) rfl rfl (one_of HT_.out (by kernel_rfl)) (by decide) (fun K hK => ?_)
                    refine goes_ Try.func10 (by kernel_rfl) rfl #[] (by rfl) rfl rfl aT_ ?_
                    with_reducible refine (ferrylaw05_awake.calls k3  t385 _ A138.out).mono ?_
                    rintro e w148 ⟨rfl, hb⟩
                    refine ⟨_, rfl, ?_⟩
                    replace HO_366000 := vB_ HO_366000.out hb
                    replace HO_366001 := vB_ HO_366001.out hb
                    replace HO_366003 := vB_ HO_366003.out hb
                    replace BK350 := kB_ BK350 hb
                    replace BK365 := kB_ BK365 hb
                    replace BK366 := kB_ BK366 hb
                    replace BK372 := kB_ BK372 hb
                    replace HB := hB_ hb
                    (try clear hb)
                    (try clear hb2)
                    (try clear hk)
                    (try clear hi)
                    refine hK.out _ _ ⟨(blk_cell BK365.out 0).trans rfl, (blk_cell BK365.out 1).trans rfl, (blk_cell BK365.out 2).trans rfl, (blk_cell BK365.out 3).trans rfl, (blk_cell BK350.out 0).trans rfl, (blk_cell BK350.out 1).trans rfl, (blk_cell BK350.out 2).trans rfl, (blk_cell BK350.out 3).trans rfl⟩ (fun hHeld => ?_)
                    clear hK K
                    refine nS_ ?_
                    refine pS_ 29 128 (mb_ 31 1073741823) ?_
                    refine pS_ 30 8 (mb_ 31 2147483647) ?_
                    refine done_ (done_of HT_.out (by kernel_rfl)) ?_
                    try go_wp2
                    go_ret
                    exact ⟨r3_, beT_⟩
                  replace c137 := Bool.eq_false_iff.mpr c137
                  subst c137
                  replace H := hN_ H
                  exact absurd H (by simp)
                rw [if_neg c135] at H
                have c135b0 : (t382 == t383) = false := beq_eq_false_iff_ne.mpr c135
                have c135b1 : (t382 != t383) = true := bne_iff_ne.mpr c135
                exact absurd H (by simp)
      rw [if_neg c17] at H
      have c17b0 : (t363 == 0) = false := beq_eq_false_iff_ne.mpr c17
      have c17b1 : (t363 != 0) = true := bne_iff_ne.mpr c17
      replace H := Option.bind_eq_some_iff.mp H
      obtain ⟨t367, A1490, H⟩ := H
      have A149 := Aside0.mk A1490
      clear A1490
      by_cases c150 : t367 = true
      · subst c150
        replace H := hP_ H
        replace H := Option.bind_eq_some_iff.mp H
        obtain ⟨t368, A1510, H⟩ := H
        have A151 := Aside0.mk A1510
        clear A1510
        obtain rfl := Option.some.inj H
        obtain ⟨hcz152_0, hcz152_1, hcz152_2, hcz152_3, hfz152_0, hfz152_1, hfz152_2, hfz152_3⟩ := b4_ BK350.out
        go_wp2_with (first | ((with_reducible refine gate_callee (f := 11) rfl ?_); refine gL_ (some 28) Try.func11 #[.agg #[.slice A0_0 l0_0.length c0_0, .slice A0_1 l0_1.length c0_1, .int .u64 a0_2, .slice A0_3 l0_3.length c0_3], .int .u32 a1, .string a2] ?_; (with_reducible refine (gmem_Put.calls kj4 (fun k_ => k_ < w.heap.size) _ _ l0_0 (fun k_ => k_ < w.heap.size) _ _ l0_1 a0_2 (fun k_ => k_ < w.heap.size) _ _ l0_3 a1 a2 t353 t356 t359 t360 t363 t364 _ ?side1 ?side2 ?side3 A16.out).mono ?_); (case side1 => exact Kd.V_mk HC0_0.out (Kd.F_below (Kd.C_F k83_heap HR0_0.out) beT_)); (case side2 => exact Kd.V_mk HC0_1.out (Kd.F_below (Kd.C_F k88_heap HR0_1.out) beT_)); (case side3 => exact Kd.V_mk HC0_3.out (Kd.F_below (Kd.C_F k41_heap HR0_3.out) beT_)); rintro e w153 ⟨v354, v357, v361, rfl, ho0, ho1, ho2, hb⟩; refine ⟨_, rfl, ?_⟩; have HO355 := Aside0.mk (Kd.V_lower (Kd.V_mono (ok' := fun k_ => k_ ≠ gb350) ho0 (fun k_ hk_ => Or.elim hk_ (fun hs_ => Or.elim hs_ (fun hs_ => fun e_ => Nat.not_le.2 hs_ (by rw [e_]; exact GW350.out)) (fun hs_ => Or.elim hs_ (fun hs_ => fun e_ => Nat.not_le.2 hs_ (by rw [e_]; exact GW350.out)) (fun hs_ => fun e_ => Nat.not_le.2 hs_ (by rw [e_]; exact GW350.out)))) (fun hn_ => (Kd.freshB (g := gb350) (o := .cells #[.slice A0_0 l0_0.length c0_0, .slice A0_1 l0_1.length c0_1, .int .u64 a0_2, .slice A0_3 l0_3.length c0_3] 29 (0, 0)) (bT_ BK350.out) k_ hn_)))) (below_size beT_)); have HO358 := Aside0.mk (Kd.V_lower (Kd.V_mono (ok' := fun k_ => k_ ≠ gb350) ho1 (fun k_ hk_ => Or.elim hk_ (fun hs_ => Or.elim hs_ (fun hs_ => fun e_ => Nat.not_le.2 hs_ (by rw [e_]; exact GW350.out)) (fun hs_ => Or.elim hs_ (fun hs_ => fun e_ => Nat.not_le.2 hs_ (by rw [e_]; exact GW350.out)) (fun hs_ => fun e_ => Nat.not_le.2 hs_ (by rw [e_]; exact GW350.out)))) (fun hn_ => (Kd.freshB (g := gb350) (o := .cells #[.slice A0_0 l0_0.length c0_0, .slice A0_1 l0_1.length c0_1, .int .u64 a0_2, .slice A0_3 l0_3.length c0_3] 29 (0, 0)) (bT_ BK350.out) k_ hn_)))) (below_size beT_)); have HO362 := Aside0.mk (Kd.V_lower (Kd.V_mono (ok' := fun k_ => k_ ≠ gb350) ho2 (fun k_ hk_ => Or.elim hk_ (fun hs_ => Or.elim hs_ (fun hs_ => fun e_ => Nat.not_le.2 hs_ (by rw [e_]; exact GW350.out)) (fun hs_ => Or.elim hs_ (fun hs_ => fun e_ => Nat.not_le.2 hs_ (by rw [e_]; exact GW350.out)) (fun hs_ => fun e_ => Nat.not_le.2 hs_ (by rw [e_]; exact GW350.out)))) (fun hn_ => (Kd.freshB (g := gb350) (o := .cells #[.slice A0_0 l0_0.length c0_0, .slice A0_1 l0_1.length c0_1, .int .u64 a0_2, .slice A0_3 l0_3.length c0_3] 29 (0, 0)) (bT_ BK350.out) k_ hn_)))) (below_size beT_)); replace BK350 := kB_ BK350 hb; replace HB := hB_ hb; (try clear hb); (try clear hb2); (try clear hk); (try clear hi); (try clear ho0); (try clear ho1); (try clear ho2)) | ((with_reducible refine gate_dst (N := 9) rfl ?_); (try (refine gate_guard (by rfl) ?_; dsimp only)); refine bE_ 9 #[.slice none 0 0, .slice none 0 0, .int .u64 0, .slice none 0 0] 29 ?_; intro gb365 hg w154 hbox hb; have BK365 := Aside0.mk hbox; have GW365 := geT_ w.heap.size hg; have GE365 := geT_ w.heap.size hg; have NB350_365 := nlT_ BK350.out hg; have NB365_350 := ngT_ BK350.out hg; replace HO355 := vE_ HO355.out hg hb; replace HO358 := vE_ HO358.out hg hb; replace HO362 := vE_ HO362.out hg hb; replace BK350 := kB_ BK350 hb; replace HB := hB_ hb; clear hb hbox hg) | ((with_reducible refine gate_dst (N := 10) rfl ?_); (try (refine gate_guard (by rfl) ?_; dsimp only)); refine bE_ 10 #[.int .i64 0, .int .u64 0] 34 ?_; intro gb366 hg w155 hbox hb; have BK366 := Aside0.mk hbox; have GW366 := geT_ w.heap.size hg; have GE366 := geT_ w.heap.size hg; have NB350_366 := nlT_ BK350.out hg; have NB366_350 := ngT_ BK350.out hg; have NB365_366 := nlT_ BK365.out hg; have NB366_365 := ngT_ BK365.out hg; replace HO355 := vE_ HO355.out hg hb; replace HO358 := vE_ HO358.out hg hb; replace HO362 := vE_ HO362.out hg hb; replace BK350 := kB_ BK350 hb; replace BK365 := kB_ BK365 hb; replace HB := hB_ hb; clear hb hbox hg; obtain ⟨Ao156, co156, eo156⟩ := Kd.V_slice HO355.out; subst eo156; have hnb157 := NB365_350.out; have hnc157 := NB350_365.out; have hnb158 := NB365_366.out; have hnc158 := NB366_365.out; obtain ⟨hcz159_0, hcz159_1, hcz159_2, hcz159_3, hfz159_0, hfz159_1, hfz159_2, hfz159_3⟩ := b4_ BK365.out; obtain ⟨Ao160, co160, eo160⟩ := Kd.V_slice HO358.out; subst eo160; obtain ⟨Ao161, co161, eo161⟩ := Kd.V_slice HO362.out; subst eo161; have hnb162 := NB366_350.out; have hnc162 := NB350_366.out; obtain ⟨hcz163_0, hcz163_1, hfz163_0, hfz163_1⟩ := b2_ BK366.out; obtain ⟨hcz164_0, hcz164_1, hcz164_2, hcz164_3, hfz164_0, hfz164_1, hfz164_2, hfz164_3⟩ := b4_ BK350.out) | ((with_reducible refine gate_callee (f := 12) rfl ?_); refine gL_ (some 36) Try.func12 #[.agg #[.slice Ao156 t353.length co156, .slice Ao160 t356.length co160, .int .u64 t359, .slice Ao161 t360.length co161], .agg #[.slice A0_0 l0_0.length c0_0, .slice A0_1 l0_1.length c0_1, .int .u64 a0_2, .slice A0_3 l0_3.length c0_3]] ?_; (with_reducible refine (ferryref04_Same.calls kj4 _ _ t353 _ _ t356 t359 _ _ t360 _ _ l0_0 _ _ l0_1 a0_2 _ _ l0_3 true _ ?side1 ?side2 ?side3 ?side4 ?side5 ?side6 ?side7 ?side8 ?side9 ?side10 ?side11 ?side12 A149.out).mono ?_); (case side1 => refine (Kd.V_reads' (e := 83) (base := w.heap.size) (ok := fun _ => True) (n := t353.length) (c := co156) ?_).2.2; exact (by (with_reducible repeat (first | apply Kd.V_alloc | apply Kd.V_drewN | apply Kd.V_drew)); exact (Kd.V_mono (Kd.V_mono (Kd.V_far (p := ⟨gb366, 1, none⟩) (Kd.V_far (p := ⟨gb366, 0, none⟩) (Kd.V_far (p := ⟨gb365, 3, none⟩) (Kd.V_far (p := ⟨gb365, 2, none⟩) (Kd.V_far (p := ⟨gb365, 1, none⟩) (Kd.V_far (p := ⟨gb365, 0, none⟩) (Kd.V_mono (Kd.V_mono HO355.out (fun k_ hk => (⟨hk, by first | exact hk.1.2 | exact hk.1.2.1 | exact hk.1.2.2| omega | grind⟩ : _ ∧ k_ ≠ gb365))) (fun k_ hk => (⟨hk, by first | exact hk.1.2 | exact hk.1.2.1 | exact hk.1.2.2| omega | grind⟩ : _ ∧ k_ ≠ gb366))) (fun _ hk => by first | exact hk.1.2 | grind) (.slice Ao156 t353.length co156)) (fun _ hk => by first | exact hk.1.2 | grind) (.slice Ao160 t356.length co160)) (fun _ hk => by first | exact hk.1.2 | grind) (.int .u64 t359)) (fun _ hk => by first | exact hk.1.2 | grind) (.slice Ao161 t360.length co161)) (fun _ hk => by first | exact hk.2 | grind) (.int .i64 t363)) (fun _ hk => by first | exact hk.2 | grind) (.int .u64 t364)) (fun _ _ => trivial)) (fun _ _ => trivial)))); (case side2 => exact (Kd.V_reads' HO355.out).2.1); (case side3 => refine (Kd.V_reads' (e := 88) (base := w.heap.size) (ok := fun _ => True) (n := t356.length) (c := co160) ?_).2.2; exact (by (with_reducible repeat (first | apply Kd.V_alloc | apply Kd.V_drewN | apply Kd.V_drew)); exact (Kd.V_mono (Kd.V_mono (Kd.V_far (p := ⟨gb366, 1, none⟩) (Kd.V_far (p := ⟨gb366, 0, none⟩) (Kd.V_far (p := ⟨gb365, 3, none⟩) (Kd.V_far (p := ⟨gb365, 2, none⟩) (Kd.V_far (p := ⟨gb365, 1, none⟩) (Kd.V_far (p := ⟨gb365, 0, none⟩) (Kd.V_mono (Kd.V_mono HO358.out (fun k_ hk => (⟨hk, by first | exact hk.1.2 | exact hk.1.2.1 | exact hk.1.2.2| omega | grind⟩ : _ ∧ k_ ≠ gb365))) (fun k_ hk => (⟨hk, by first | exact hk.1.2 | exact hk.1.2.1 | exact hk.1.2.2| omega | grind⟩ : _ ∧ k_ ≠ gb366))) (fun _ hk => by first | exact hk.1.2 | grind) (.slice Ao156 t353.length co156)) (fun _ hk => by first | exact hk.1.2 | grind) (.slice Ao160 t356.length co160)) (fun _ hk => by first | exact hk.1.2 | grind) (.int .u64 t359)) (fun _ hk => by first | exact hk.1.2 | grind) (.slice Ao161 t360.length co161)) (fun _ hk => by first | exact hk.2 | grind) (.int .i64 t363)) (fun _ hk => by first | exact hk.2 | grind) (.int .u64 t364)) (fun _ _ => trivial)) (fun _ _ => trivial)))); (case side4 => exact (Kd.V_reads' HO358.out).2.1); (case side5 => refine (Kd.V_reads' (e := 41) (base := w.heap.size) (ok := fun _ => True) (n := t360.length) (c := co161) ?_).2.2; exact (by (with_reducible repeat (first | apply Kd.V_alloc | apply Kd.V_drewN | apply Kd.V_drew)); exact (Kd.V_mono (Kd.V_mono (Kd.V_far (p := ⟨gb366, 1, none⟩) (Kd.V_far (p := ⟨gb366, 0, none⟩) (Kd.V_far (p := ⟨gb365, 3, none⟩) (Kd.V_far (p := ⟨gb365, 2, none⟩) (Kd.V_far (p := ⟨gb365, 1, none⟩) (Kd.V_far (p := ⟨gb365, 0, none⟩) (Kd.V_mono (Kd.V_mono HO362.out (fun k_ hk => (⟨hk, by first | exact hk.1.2 | exact hk.1.2.1 | exact hk.1.2.2| omega | grind⟩ : _ ∧ k_ ≠ gb365))) (fun k_ hk => (⟨hk, by first | exact hk.1.2 | exact hk.1.2.1 | exact hk.1.2.2| omega | grind⟩ : _ ∧ k_ ≠ gb366))) (fun _ hk => by first | exact hk.1.2 | grind) (.slice Ao156 t353.length co156)) (fun _ hk => by first | exact hk.1.2 | grind) (.slice Ao160 t356.length co160)) (fun _ hk => by first | exact hk.1.2 | grind) (.int .u64 t359)) (fun _ hk => by first | exact hk.1.2 | grind) (.slice Ao161 t360.length co161)) (fun _ hk => by first | exact hk.2 | grind) (.int .i64 t363)) (fun _ hk => by first | exact hk.2 | grind) (.int .u64 t364)) (fun _ _ => trivial)) (fun _ _ => trivial)))); (case side6 => exact (Kd.V_reads' HO362.out).2.1); (case side7 => exact Kd.C_below HR0_0.out beT_); (case side8 => exact HC0_0.out); (case side9 => exact Kd.C_below HR0_1.out beT_); (case side10 => exact HC0_1.out); (case side11 => exact Kd.C_below HR0_3.out beT_); (case side12 => exact HC0_3.out); rintro e w165 ⟨rfl, hb⟩; refine ⟨_, rfl, ?_⟩; replace HO355 := Aside0.mk (Kd.V_below (by (with_reducible repeat (first | apply Kd.V_alloc | apply Kd.V_drewN | apply Kd.V_drew)); exact (Kd.V_mono (Kd.V_mono (Kd.V_far (p := ⟨gb366, 1, none⟩) (Kd.V_far (p := ⟨gb366, 0, none⟩) (Kd.V_far (p := ⟨gb365, 3, none⟩) (Kd.V_far (p := ⟨gb365, 2, none⟩) (Kd.V_far (p := ⟨gb365, 1, none⟩) (Kd.V_far (p := ⟨gb365, 0, none⟩) (Kd.V_mono (Kd.V_mono HO355.out (fun k_ hk => (⟨hk, by first | exact hk.1.2 | exact hk.1.2.1 | exact hk.1.2.2| omega | grind⟩ : _ ∧ k_ ≠ gb365))) (fun k_ hk => (⟨hk, by first | exact hk.1.2 | exact hk.1.2.1 | exact hk.1.2.2| omega | grind⟩ : _ ∧ k_ ≠ gb366))) (fun _ hk => by first | exact hk.1.2 | grind) (.slice Ao156 t353.length co156)) (fun _ hk => by first | exact hk.1.2 | grind) (.slice Ao160 t356.length co160)) (fun _ hk => by first | exact hk.1.2 | grind) (.int .u64 t359)) (fun _ hk => by first | exact hk.1.2 | grind) (.slice Ao161 t360.length co161)) (fun _ hk => by first | exact hk.2 | grind) (.int .i64 t363)) (fun _ hk => by first | exact hk.2 | grind) (.int .u64 t364)) (fun _ h_ => h_.1)) (fun _ h_ => h_.1))) hb); replace HO358 := Aside0.mk (Kd.V_below (by (with_reducible repeat (first | apply Kd.V_alloc | apply Kd.V_drewN | apply Kd.V_drew)); exact (Kd.V_mono (Kd.V_mono (Kd.V_far (p := ⟨gb366, 1, none⟩) (Kd.V_far (p := ⟨gb366, 0, none⟩) (Kd.V_far (p := ⟨gb365, 3, none⟩) (Kd.V_far (p := ⟨gb365, 2, none⟩) (Kd.V_far (p := ⟨gb365, 1, none⟩) (Kd.V_far (p := ⟨gb365, 0, none⟩) (Kd.V_mono (Kd.V_mono HO358.out (fun k_ hk => (⟨hk, by first | exact hk.1.2 | exact hk.1.2.1 | exact hk.1.2.2| omega | grind⟩ : _ ∧ k_ ≠ gb365))) (fun k_ hk => (⟨hk, by first | exact hk.1.2 | exact hk.1.2.1 | exact hk.1.2.2| omega | grind⟩ : _ ∧ k_ ≠ gb366))) (fun _ hk => by first | exact hk.1.2 | grind) (.slice Ao156 t353.length co156)) (fun _ hk => by first | exact hk.1.2 | grind) (.slice Ao160 t356.length co160)) (fun _ hk => by first | exact hk.1.2 | grind) (.int .u64 t359)) (fun _ hk => by first | exact hk.1.2 | grind) (.slice Ao161 t360.length co161)) (fun _ hk => by first | exact hk.2 | grind) (.int .i64 t363)) (fun _ hk => by first | exact hk.2 | grind) (.int .u64 t364)) (fun _ h_ => h_.1)) (fun _ h_ => h_.1))) hb); replace HO362 := Aside0.mk (Kd.V_below (by (with_reducible repeat (first | apply Kd.V_alloc | apply Kd.V_drewN | apply Kd.V_drew)); exact (Kd.V_mono (Kd.V_mono (Kd.V_far (p := ⟨gb366, 1, none⟩) (Kd.V_far (p := ⟨gb366, 0, none⟩) (Kd.V_far (p := ⟨gb365, 3, none⟩) (Kd.V_far (p := ⟨gb365, 2, none⟩) (Kd.V_far (p := ⟨gb365, 1, none⟩) (Kd.V_far (p := ⟨gb365, 0, none⟩) (Kd.V_mono (Kd.V_mono HO362.out (fun k_ hk => (⟨hk, by first | exact hk.1.2 | exact hk.1.2.1 | exact hk.1.2.2| omega | grind⟩ : _ ∧ k_ ≠ gb365))) (fun k_ hk => (⟨hk, by first | exact hk.1.2 | exact hk.1.2.1 | exact hk.1.2.2| omega | grind⟩ : _ ∧ k_ ≠ gb366))) (fun _ hk => by first | exact hk.1.2 | grind) (.slice Ao156 t353.length co156)) (fun _ hk => by first | exact hk.1.2 | grind) (.slice Ao160 t356.length co160)) (fun _ hk => by first | exact hk.1.2 | grind) (.int .u64 t359)) (fun _ hk => by first | exact hk.1.2 | grind) (.slice Ao161 t360.length co161)) (fun _ hk => by first | exact hk.2 | grind) (.int .i64 t363)) (fun _ hk => by first | exact hk.2 | grind) (.int .u64 t364)) (fun _ h_ => h_.1)) (fun _ h_ => h_.1))) hb); replace BK350 := kB_ BK350 hb; replace BK365 := Aside0.mk (blk_below (g := gb365) (o := .cells #[.slice Ao156 t353.length co156, .slice Ao160 t356.length co160, .int .u64 t359, .slice Ao161 t360.length co161] 29 (0, 0)) (kP_ BK365.out) hb); replace BK366 := Aside0.mk (blk_below (g := gb366) (o := .cells #[.int .i64 t363, .int .u64 t364] 34 (0, 0)) (kP_ BK366.out) hb); replace HB := hB_ hb; (try clear hb); (try clear hb2); (try clear hk); (try clear hi)) | (go_at_call 10; (with_reducible refine (ferrylaw05_awake.calls kj4  t368 _ A151.out).mono ?_); rintro e w166 ⟨rfl, hb⟩; replace HO355 := vB_ HO355.out hb; replace HO358 := vB_ HO358.out hb; replace HO362 := vB_ HO362.out hb; replace BK350 := kB_ BK350 hb; replace BK365 := kB_ BK365 hb; replace BK366 := kB_ BK366 hb; replace HB := hB_ hb; (try clear hb); (try clear hb2); (try clear hk); (try clear hi)))
        go_ret
        exact ⟨r3_, beT_⟩
      replace c150 := Bool.eq_false_iff.mpr c150
      subst c150
      replace H := hN_ H
      exact absurd H (by simp)

end Go.Proofs.Ytgkjdpdmmlalcaa.F
end
