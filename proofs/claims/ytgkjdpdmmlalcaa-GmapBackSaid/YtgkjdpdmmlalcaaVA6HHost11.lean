import Derived.Test.YtgkjdpdmmlalcaaVZF0
import Derived.Test.YtgkjdpdmmlalcaaVA0
import Derived.Test.YtgkjdpdmmlalcaaVA5
section
namespace Go.Proofs.Ytgkjdpdmmlalcaa.F
open Go.RowKit Go.Shelf Go.Proofs.YtgkjdpdmmlalcaaW.PrintWords Go.Proofs.YtgkjdpdmmlalcaaW.PrintLast Go.Proofs.YtgkjdpdmmlalcaaW.PrintMore
set_option linter.unusedVariables false
set_option linter.unusedSimpArgs false
def ferryref03_Fit.T13 : Bool × List (List Nat × List Nat) := (true, [([], []), ([0], [0]), ([1], [1]), ([2], [2]), ([3], [3]), ([4], [4]), ([5, 4], [4, 5]), ([6, 4], [4, 6]), ([4, 7], [4, 7]), ([8, 4], [8]), ([9], [9]), ([10, 9], [9, 10]), ([11, 9, 9], [9, 11]), ([12], [12]), ([13, 12], [12, 13]), ([12], [12]), ([15, 12], [12, 15]), ([14, 16, 12], [12, 14, 16]), ([17, 12], [12, 17]), ([18, 12], [12, 18]), ([12], [12]), ([20, 12], [12, 20]), ([19, 21, 12], [12, 19, 21]), ([12, 22, 9], [9, 12, 22]), ([9, 23], [9, 23]), ([24, 12], [24]), ([25], [25]), ([25], [25]), ([27, 25], [25, 27]), ([28, 25], [25, 28]), ([26, 29, 25, 25], [25, 26, 29]), ([30, 25], [25, 30]), ([25, 31], [25, 31])])
def ferryref03_Fit.B13 : List Nat := [0, 1, 3, 7, 15, 31, 63, 127, 255, 511, 1023, 2047, 4095, 8191, 16383, 8191, 40959, 131071, 262143, 524287, 8191, 1056767, 4194303, 8388607, 16777215, 33554431, 67108863, 67108863, 201326591, 469762047, 1073741823, 2147483647, 4294967295]
theorem ferryref03_Fit.tab13 : rtab .any (opsOf Try.f44 13) = ferryref03_Fit.T13 := by kernel_rfl
theorem ferryref03_Fit.bits13 : waitsOk ferryref03_Fit.T13.2 ferryref03_Fit.B13 = true := by kernel_rfl
def ms_ (n k : Nat) : Array Bool := (List.replicate k true ++ List.replicate (n - k) false).toArray
def prevGe {α : Type} (key : α → Int) (l : List α) (k : Nat) (a : Int) : Bool :=
  match k with
  | 0 => false
  | j + 1 => (match l[j]? with | none => false | some y => decide (key y ≥ a))
theorem prevGe_succ {α : Type} (key : α → Int) (l : List α) (j : Nat) (hj : j < l.length) (a : Int) : prevGe key l (j + 1) a = decide (key l[j] ≥ a) := by
  unfold prevGe
  dsimp only
  rw [List.getElem?_eq_getElem hj]
def badM (l : List S83) (k : Nat) : Bool :=
  match l[k]? with
  | none => false
  | some x => decide (x.f0 ≥ 1125899906842624) || (decide (x.f1 < 0) || (decide (x.f1 > 7) || prevGe mpK l k x.f0))
def placeFrom (a : Int) : List S83 → Nat → Int
  | [], _ => -1
  | x :: l, i => if x.f0 = a then (i : Int) else placeFrom a l (i + 1)
def placeR (l : List S83) (a : Int) : Int := placeFrom a l 0
theorem place_l0 (a : Int) (l : List S83) (m : List S88) (hl : l.length ≤ 1000000) : ∀ (k i : Nat), i ≤ l.length → l.length - i < k → ferryref03_Place.l0 k a (i : Int) l m = some (placeFrom a (l.drop i) i)
  | 0, i, _, h => by omega
  | k + 1, i, hi, h => by
    unfold ferryref03_Place.l0
    by_cases hlt : i < l.length
    · rw [if_pos (by omega), if_pos (by omega), mp_getR hlt, List.drop_eq_getElem_cons hlt]
      unfold placeFrom
      have hw : wrap64 ((i : Int) + 1) = ((i + 1 : Nat) : Int) := by unfold wrap64; omega
      rw [hw, place_l0 a l m hl k (i + 1) hlt (by omega)]
      split <;> rfl
    rw [if_neg (by omega), List.drop_eq_nil_of_le (by omega)]
    rfl
theorem place_f (a : Int) (l : List S83) (m : List S88) (hl : l.length ≤ 1000000) : ferryref03_Place.f (l.length + 1) l m a = some (placeR l a) := place_l0 a l m hl _ 0 (Nat.zero_le _) (by omega)
def badC (l0 : List S83) (l : List S88) (k : Nat) : Bool :=
  match l[k]? with
  | none => false
  | some x => (Int.tmod x.f0 8 != 0) || ((x.f1 == 0) || (prevGe clK l k x.f0 || decide (placeR l0 (IntKind.u64.wrap (Int.tdiv x.f0 16384)) < 0)))
def fitR (l0_0 : List S83) (l0_1 : List S88) : Bool := decide (l0_0.length ≤ 64) && (decide (l0_1.length ≤ 131072) && (!((List.range l0_0.length).any (badM l0_0)) && !((List.range l0_1.length).any (badC l0_0 l0_1))))
theorem any_range_of {n : Nat} {p : Nat → Bool} {k : Nat} (hk : k < n) (h : p k = true) : (List.range n).any p = true := List.any_eq_true.2 ⟨k, List.mem_range.2 hk, h⟩
theorem any_range_no {n : Nat} {p : Nat → Bool} (h : ∀ k, k < n → p k = false) : (List.range n).any p = false := List.any_eq_false.2 (fun k hk => by rw [h k (List.mem_range.1 hk)]; simp)
-- HAND fn=ferry/ferryref03.Fit ; rounds=0 ; making=1 ; laid=0
def ferryref03_Fit.f (l0_0 : List S83) (l0_1 : List S88) : Option Bool := if l0_0.length ≤ 1000000 ∧ l0_1.length ≤ 1000000 then some (fitR l0_0 l0_1) else none
set_option maxHeartbeats 8000000 in
set_option maxRecDepth 100000 in
theorem ferryref03_Fit.calls (A0_0 : Option Addr) (c0_0 : Nat) (l0_0 : List S83) (A0_1 : Option Addr) (c0_1 : Nat) (l0_1 : List S88) (r : Bool) (w : World) (hr0_0 : Kd.C k83 w A0_0 l0_0.length l0_0) (hc0_0 : l0_0.length ≤ c0_0) (hr0_1 : Kd.C k88 w A0_1 l0_1.length l0_1) (hc0_1 : l0_1.length ≤ c0_1) (h : ferryref03_Fit.f l0_0 l0_1 = some r) :
    Calls Try.prog 44 #[.agg #[.slice A0_0 l0_0.length c0_0, .slice A0_1 l0_1.length c0_1]] w fun e w' => e = .returned (.bool r) ∧ Below w.heap.size w w' := by
  unfold ferryref03_Fit.f at h
  split at h
  rotate_left
  · cases h
  rename_i hl
  have EF := Lib.hid (Option.some.inj h)
  clear h
  have HM := Lib.hid hr0_0
  have HC := Lib.hid hr0_1
  have B0 := Lib.hid ((Below.refl _ w).alloc (Nat.le_refl _) (.cells #[.slice A0_0 l0_0.length c0_0, .slice A0_1 l0_1.length c0_1] 25))
  have K0 := Lib.hid (blk_new w (.cells #[.slice A0_0 l0_0.length c0_0, .slice A0_1 l0_1.length c0_1] 25))
  have mixed : Try.prog.follows Departure.mixedOrders = true := by kernel_rfl
  have hu := Try.underlying25
  have hu2 := Try.underlying83
  have hu3 := Try.underlying88
  clear hr0_0 hr0_1
  go_enter Try.func44, Try.ntmps44
  have EF2 := EF.out
  unfold fitR at EF2
  by_cases h64 : l0_0.length ≤ 64
  rotate_left
  · rw [decide_eq_false h64] at EF2
    simp at EF2
    subst EF2
    go_wp2
    go_ret
    exact ⟨rfl, B0.out⟩
  rw [decide_eq_true h64, Bool.true_and] at EF2
  by_cases h131 : l0_1.length ≤ 131072
  rotate_left
  · rw [decide_eq_false h131] at EF2
    simp at EF2
    subst EF2
    go_wp2
    go_ret
    exact ⟨rfl, B0.out⟩
  rw [decide_eq_true h131, Bool.true_and] at EF2
  have EA := Lib.hid EF2
  clear EF2 EF
  go_wp2
  generalize w.alloc (.cells #[.slice A0_0 l0_0.length c0_0, .slice A0_1 l0_1.length c0_1] 25) = w1 at B0 K0 ⊢
  go_loopw [3] (fun t wr => ∃ k : Nat, t = .int .i64 k ∧ k ≤ l0_0.length ∧ Hid (∀ j, j < k → badM l0_0 j = false) ∧ Hid (Below w.heap.size w wr) ∧ Hid (wr.heap[w.heap.size]? = some (.cells #[.slice A0_0 l0_0.length c0_0, .slice A0_1 l0_1.length c0_1] 25 (0, 0)))) (fun t _ => l0_0.length - (intOf t).toNat)
  case atStart => exact ⟨0, rfl, Nat.zero_le _, Lib.hid (fun j hj => by omega), B0, K0⟩
  case round =>
    obtain ⟨k, rfl, hk, hn, HB, HK⟩ := hrel
    clear B0 K0
    have k0 := (sblk_cell HK.out 0).trans rfl
    by_cases hlt : k < l0_0.length
    · obtain ⟨ad, rfl, c0, c1⟩ := at_T83 (Kd.C_below HM.out HB.out) (k : Int) (by omega) (by omega)
      rw [mp_getR hlt, Int.toNat_natCast] at c0 c1
      have YES := Lib.hid (fun (h : badM l0_0 k = false) (j : Nat) (hji : j < k + 1) => by
        rcases Nat.lt_or_ge j k with h1 | h1
        · exact hn.out j h1
        · obtain rfl : j = k := by omega
          exact h)
      have NO := Lib.hid (fun (h : badM l0_0 k = true) => any_range_of hlt h)
      have hbm : badM l0_0 k = (decide (l0_0[k].f0 ≥ 1125899906842624) || (decide (l0_0[k].f1 < 0) || (decide (l0_0[k].f1 > 7) || prevGe mpK l0_0 k l0_0[k].f0))) := by
        unfold badM
        rw [List.getElem?_eq_getElem hlt]
      generalize l0_0[k] = x at c0 c1 hbm
      have X0 := Lib.hid (HB.out.trans (((Below.refl _ wr).alloc (Nat.le_refl _) (.cells #[.int .u64 x.f0, .int .i64 x.f1] 83)).mono HB.out.size))
      have N0 := Lib.hid (blk_new wr (.cells #[.int .u64 x.f0, .int .i64 x.f1] 83))
      have K1 := Lib.hid (blk_alloc HK.out (.cells #[.int .u64 x.f0, .int .i64 x.f1] 83))
      cases hge : decide (x.f0 ≥ 1125899906842624)
      rotate_left
      · rw [hge] at hbm
        have hf := NO.out hbm
        obtain rfl : r = false := by rw [← EA.out, hf]; rfl
        clear YES NO hf hbm
        go_wp2_with (fail)
        go_quiet (fail)
        go_wp2
        go_ret
        exact ⟨rfl, pw_below_drewN X0.out _⟩
      rw [hge, Bool.false_or] at hbm
      cases hng : decide (x.f1 < 0)
      rotate_left
      · rw [hng] at hbm
        have hf := NO.out hbm
        obtain rfl : r = false := by rw [← EA.out, hf]; rfl
        clear YES NO hf hbm
        go_wp2_with (fail)
        go_quiet (fail)
        go_wp2
        go_ret
        exact ⟨rfl, pw_below_drewN X0.out _⟩
      rw [hng, Bool.false_or] at hbm
      cases hg7 : decide (x.f1 > 7)
      rotate_left
      · rw [hg7] at hbm
        have hf := NO.out hbm
        obtain rfl : r = false := by rw [← EA.out, hf]; rfl
        clear YES NO hf hbm
        go_wp2_with (fail)
        go_quiet (fail)
        go_wp2
        go_ret
        exact ⟨rfl, pw_below_drewN X0.out _⟩
      rw [hg7, Bool.false_or] at hbm
      by_cases hk0 : k = 0
      · have hbm : badM l0_0 k = false := hbm.trans (by rw [hk0]; rfl)
        have hkb : decide (0 < k) = false := decide_eq_false (by omega)
        have HK0 := Lib.hid hk0
        clear hk0
        have hy := Lib.hid (YES.out hbm)
        clear YES NO hbm
        go_wp2_with (fail)
        go_quiet (fail)
        go_wp2
        have hb := fun nd => pw_below_drewN (Below.refl (wr.alloc (.cells #[.int .u64 x.f0, .int .i64 x.f1] 83)).heap.size (wr.alloc (.cells #[.int .u64 x.f0, .int .i64 x.f1] 83))) nd
        exact ⟨⟨k + 1, by go_num, hlt, hy, Lib.hid (pw_below_drewN X0.out _), Lib.hid (((hb _).block _ (sblk_lt K1.out)).trans K1.out)⟩, by simp [intOf]; omega⟩
      obtain ⟨j, hkj⟩ : ∃ j, k = j + 1 := ⟨k - 1, by omega⟩
      have hkb : decide (0 < k) = true := decide_eq_true (by omega)
      have hj1 : j < l0_0.length := by omega
      have hbm := hbm.trans (show prevGe mpK l0_0 k x.f0 = decide (l0_0[j].f0 ≥ x.f0) by rw [hkj]; exact prevGe_succ mpK l0_0 j hj1 _)
      obtain ⟨ad2, had2, d0, d1⟩ := at_T83 (Kd.C_below HM.out HB.out) (j : Int) (by omega) (by omega)
      injection had2 with had2
      subst had2
      rw [mp_getR hj1, Int.toNat_natCast] at d0 d1
      have k0' := (sblk_cell K1.out 0).trans rfl
      replace d0 := (((Below.refl wr.heap.size wr).alloc (Nat.le_refl _) (.cells #[.int .u64 x.f0, .int .i64 x.f1] 83)).cell (World.block_lt_of_cell? _ _ d0)).trans d0
      clear d1
      generalize l0_0[j] = y at d0 hbm
      have hwj : IntKind.i64.wrap ((k : Int) - 1) = (j : Int) := (i64_w _).trans (by unfold wrap64; omega)
      have HKJ := Lib.hid hkj
      clear hkj hk0
      cases hyx : decide (y.f0 ≥ x.f0)
      · rw [hyx] at hbm
        have hy := Lib.hid (YES.out hbm)
        clear YES NO hbm
        go_wp2_with (fail)
        go_quiet (fail)
        go_wp2
        have hb := fun nd => pw_below_drewN (Below.refl (wr.alloc (.cells #[.int .u64 x.f0, .int .i64 x.f1] 83)).heap.size (wr.alloc (.cells #[.int .u64 x.f0, .int .i64 x.f1] 83))) nd
        exact ⟨⟨k + 1, by go_num, hlt, hy, Lib.hid (pw_below_drewN X0.out _), Lib.hid (((hb _).block _ (sblk_lt K1.out)).trans K1.out)⟩, by simp [intOf]; omega⟩
      · rw [hyx] at hbm
        have hf := NO.out hbm
        obtain rfl : r = false := by rw [← EA.out, hf]; rfl
        clear YES NO hf hbm
        go_wp2_with (fail)
        go_quiet (fail)
        go_wp2
        go_ret
        exact ⟨rfl, pw_below_drewN X0.out _⟩
    have hany : (List.range l0_0.length).any (badM l0_0) = false := any_range_no (fun j hj => hn.out j (by omega))
    have EA2 := Lib.hid (show (!((List.range l0_1.length).any (badC l0_0 l0_1))) = r by rw [← EA.out, hany]; rfl)
    clear hn hany EA
    go_wp2
    clear k0
    go_loopw [5] (fun t wr => ∃ k : Nat, t = .int .i64 k ∧ k ≤ l0_1.length ∧ Hid (∀ j, j < k → badC l0_0 l0_1 j = false) ∧ Hid (Below w.heap.size w wr) ∧ Hid (wr.heap[w.heap.size]? = some (.cells #[.slice A0_0 l0_0.length c0_0, .slice A0_1 l0_1.length c0_1] 25 (0, 0)))) (fun t _ => l0_1.length - (intOf t).toNat)
    case atStart => exact ⟨0, rfl, Nat.zero_le _, Lib.hid (fun j hj => by omega), HB, HK⟩
    case round =>
      clear HB HK
      obtain ⟨k, rfl, hk, hn, HB, HK⟩ := hrel
      have k1 := (sblk_cell HK.out 1).trans rfl
      by_cases hlt : k < l0_1.length
      · obtain ⟨ad, rfl, c0, c1⟩ := at_T88 (Kd.C_below HC.out HB.out) (k : Int) (by omega) (by omega)
        rw [cl_getR hlt, Int.toNat_natCast] at c0 c1
        have YES := Lib.hid (fun (h : badC l0_0 l0_1 k = false) (j : Nat) (hji : j < k + 1) => by
          rcases Nat.lt_or_ge j k with h1 | h1
          · exact hn.out j h1
          · obtain rfl : j = k := by omega
            exact h)
        have NO := Lib.hid (fun (h : badC l0_0 l0_1 k = true) => any_range_of hlt h)
        have hbm : badC l0_0 l0_1 k = ((Int.tmod l0_1[k].f0 8 != 0) || ((l0_1[k].f1 == 0) || (prevGe clK l0_1 k l0_1[k].f0 || decide (placeR l0_0 (IntKind.u64.wrap (Int.tdiv l0_1[k].f0 16384)) < 0)))) := by
          unfold badC
          rw [List.getElem?_eq_getElem hlt]
        generalize l0_1[k] = x at c0 c1 hbm
        have X0 := Lib.hid (HB.out.trans (((Below.refl _ wr).alloc (Nat.le_refl _) (.cells #[.int .u64 x.f0, .int .u64 x.f1] 88)).mono HB.out.size))
        have N0 := Lib.hid (blk_new wr (.cells #[.int .u64 x.f0, .int .u64 x.f1] 88))
        have K1 := Lib.hid (blk_alloc HK.out (.cells #[.int .u64 x.f0, .int .u64 x.f1] 88))
        have k0' := (sblk_cell K1.out 0).trans rfl
        have k1' := (sblk_cell K1.out 1).trans rfl
        have PL := Lib.hid (fun W (hW : Below w.heap.size w W) => ferryref03_Place.calls _ A0_0 c0_0 l0_0 (some ad) c0_1 l0_1 (IntKind.u64.wrap (Int.tdiv x.f0 16384)) _ W (Kd.C_below HM.out hW) hc0_0 (Kd.C_below HC.out hW) hc0_1 (place_f _ l0_0 l0_1 hl.1))
        cases h8 : (Int.tmod x.f0 8 != 0)
        rotate_left
        · rw [h8] at hbm
          have hf := NO.out hbm
          obtain rfl : r = false := by rw [← EA2.out, hf]; rfl
          clear YES NO hf hbm PL
          go_wp2_with (fail)
          go_quiet (fail)
          go_wp2
          go_ret
          exact ⟨rfl, pw_below_drewN X0.out _⟩
        rw [h8, Bool.false_or] at hbm
        cases hw0 : (x.f1 == 0)
        rotate_left
        · rw [hw0] at hbm
          have hf := NO.out hbm
          obtain rfl : r = false := by rw [← EA2.out, hf]; rfl
          clear YES NO hf hbm PL
          go_wp2_with (fail)
          go_quiet (fail)
          go_wp2
          go_ret
          exact ⟨rfl, pw_below_drewN X0.out _⟩
        rw [hw0, Bool.false_or] at hbm
        by_cases hk0 : k = 0
        · rw [show prevGe clK l0_1 k x.f0 = false by rw [hk0]; rfl, Bool.false_or] at hbm
          have hkb : decide (0 < k) = false := decide_eq_false (by omega)
          have HK0 := Lib.hid hk0
          clear hk0
          cases hpl : decide (placeR l0_0 (IntKind.u64.wrap (Int.tdiv x.f0 16384)) < 0)
          · rw [hpl] at hbm
            have hy := Lib.hid (YES.out hbm)
            clear YES NO hbm
            go_wp2_with (fail)
            generalize wr.alloc (.cells #[.int .u64 x.f0, .int .u64 x.f1] 88) = W2 at X0 N0 K1 k0' k1' ⊢
            have n0 := (sblk_cell N0.out 0).trans rfl
            have n1 := (sblk_cell N0.out 1).trans rfl
            refine start_ (n := 33) (S := fun w' => w'.cell? ⟨wr.heap.size, 0, none⟩ = some (.int .u64 x.f0) ∧ w'.cell? ⟨wr.heap.size, 1, none⟩ = some (.int .u64 x.f1) ∧ w'.cell? ⟨w.heap.size, 0, none⟩ = some (.slice A0_0 l0_0.length c0_0) ∧ w'.cell? ⟨w.heap.size, 1, none⟩ = some (.slice (some ad) l0_1.length c0_1)) (ds := []) (ms_ 33 0) (by kernel_rfl) rfl rfl ⟨n0, n1, k0', k1'⟩ (fun hHeld => ?_)
            refine with_tabW ferryref03_Fit.tab13 ferryref03_Fit.bits13 (fun HT_ HW_ => ?_)
            refine pS_ 0 70 (mb_ 33 1) ?_
            refine t4S_ 1 71 (mb_ 33 3) ?_
            refine pS_ 2 72 (mb_ 33 7) ?_
            refine pS_ 3 73 (mb_ 33 15) ?_
            refine pS_ 4 74 (mb_ 33 31) ?_
            refine pS_ 5 75 (mb_ 33 63) ?_
            refine t4S_ 6 76 (mb_ 33 127) ?_
            refine pS_ 7 77 (mb_ 33 255) ?_
            refine pS_ 8 78 (mb_ 33 511) ?_
            refine pS_ 9 79 (mb_ 33 1023) ?_
            refine pS_ 10 80 (mb_ 33 2047) ?_
            refine pS_ 11 81 (mb_ 33 4095) ?_
            refine pS_ 12 82 (mb_ 33 8191) ?_
            refine uS_ 13 83 (mb_ 33 16383) ?_
            refine uS_ 14 84 (mb_ 33 32767) ?_
            refine uS_ 15 85 (mb_ 33 65535) ?_
            refine uS_ 16 86 (mb_ 33 131071) ?_
            refine uS_ 17 87 (mb_ 33 262143) ?_
            refine uS_ 18 88 (mb_ 33 524287) ?_
            refine uS_ 19 89 (mb_ 33 1048575) ?_
            refine uS_ 20 90 (mb_ 33 2097151) ?_
            refine uS_ 21 91 (mb_ 33 4194303) ?_
            refine uS_ 22 92 (mb_ 33 8388607) ?_
            refine pS_ 23 93 (mb_ 33 16777215) ?_
            refine pS_ 24 94 (mb_ 33 33554431) ?_
            refine pS_ 25 95 (mb_ 33 67108863) ?_
            refine pS_ 27 97 (mb_ 33 201326591) ?_
            refine t4S_ 26 96 (mb_ 33 268435455) ?_
            refine t4S_ 28 98 (mb_ 33 536870911) ?_
            refine pS_ 29 99 (mb_ 33 1073741823) ?_
            refine one_ (i := 30) (N := some 100) (mb_ 33 2147483647) rfl rfl (one_of HT_.out (by kernel_rfl)) (by decide) (fun K hK => ?_)
            refine goes_ Try.func45 (by kernel_rfl) rfl #[.agg #[.slice A0_0 l0_0.length c0_0, .slice (some ad) l0_1.length c0_1], .int .u64 (IntKind.u64.wrap (Int.tdiv x.f0 16384))] (by rfl) rfl rfl (by simp only [List.map_toArray, List.map_cons, List.map_nil]; rfl) ?_
            with_reducible refine (PL.out _ (show Below w.heap.size w _ from X0.out.drew)).mono ?_
            rintro ex w5 ⟨rfl, hb⟩
            refine ⟨_, rfl, ?_⟩
            have X9 := Lib.hid (show Below w.heap.size w w5 from X0.out.drew.trans (hb.mono X0.out.size))
            have K9 := Lib.hid ((hb.block _ (show w.heap.size < _ from sblk_lt K1.out)).trans K1.out)
            refine hK.out _ _ ⟨((hb.cell (World.block_lt_of_cell? _ _ n0)).trans n0), ((hb.cell (World.block_lt_of_cell? _ _ n1)).trans n1), ((hb.cell (World.block_lt_of_cell? _ _ k0')).trans k0'), ((hb.cell (World.block_lt_of_cell? _ _ k1')).trans k1')⟩ (fun hHeld => ?_)
            clear hK K
            refine nS_ ?_
            refine pS_ 31 101 (mb_ 33 4294967295) ?_
            refine pS_ 32 102 (mb_ 33 8589934591) ?_
            refine done_ (done_of HT_.out (by kernel_rfl)) ?_
            all_goals
              go_wp2
              exact ⟨⟨k + 1, by go_num, hlt, hy, X9, K9⟩, by simp [intOf]; omega⟩
          · rw [hpl] at hbm
            have hf := NO.out hbm
            obtain rfl : r = false := by rw [← EA2.out, hf]; rfl
            clear YES NO hf hbm
            go_wp2_with (fail)
            generalize wr.alloc (.cells #[.int .u64 x.f0, .int .u64 x.f1] 88) = W2 at X0 N0 K1 k0' k1' ⊢
            have n0 := (sblk_cell N0.out 0).trans rfl
            have n1 := (sblk_cell N0.out 1).trans rfl
            refine start_ (n := 33) (S := fun w' => w'.cell? ⟨wr.heap.size, 0, none⟩ = some (.int .u64 x.f0) ∧ w'.cell? ⟨wr.heap.size, 1, none⟩ = some (.int .u64 x.f1) ∧ w'.cell? ⟨w.heap.size, 0, none⟩ = some (.slice A0_0 l0_0.length c0_0) ∧ w'.cell? ⟨w.heap.size, 1, none⟩ = some (.slice (some ad) l0_1.length c0_1)) (ds := []) (ms_ 33 0) (by kernel_rfl) rfl rfl ⟨n0, n1, k0', k1'⟩ (fun hHeld => ?_)
            refine with_tabW ferryref03_Fit.tab13 ferryref03_Fit.bits13 (fun HT_ HW_ => ?_)
            refine pS_ 0 70 (mb_ 33 1) ?_
            refine t4S_ 1 71 (mb_ 33 3) ?_
            refine pS_ 2 72 (mb_ 33 7) ?_
            refine pS_ 3 73 (mb_ 33 15) ?_
            refine pS_ 4 74 (mb_ 33 31) ?_
            refine pS_ 5 75 (mb_ 33 63) ?_
            refine t4S_ 6 76 (mb_ 33 127) ?_
            refine pS_ 7 77 (mb_ 33 255) ?_
            refine pS_ 8 78 (mb_ 33 511) ?_
            refine pS_ 9 79 (mb_ 33 1023) ?_
            refine pS_ 10 80 (mb_ 33 2047) ?_
            refine pS_ 11 81 (mb_ 33 4095) ?_
            refine pS_ 12 82 (mb_ 33 8191) ?_
            refine uS_ 13 83 (mb_ 33 16383) ?_
            refine uS_ 14 84 (mb_ 33 32767) ?_
            refine uS_ 15 85 (mb_ 33 65535) ?_
            refine uS_ 16 86 (mb_ 33 131071) ?_
            refine uS_ 17 87 (mb_ 33 262143) ?_
            refine uS_ 18 88 (mb_ 33 524287) ?_
            refine uS_ 19 89 (mb_ 33 1048575) ?_
            refine uS_ 20 90 (mb_ 33 2097151) ?_
            refine uS_ 21 91 (mb_ 33 4194303) ?_
            refine uS_ 22 92 (mb_ 33 8388607) ?_
            refine pS_ 23 93 (mb_ 33 16777215) ?_
            refine pS_ 24 94 (mb_ 33 33554431) ?_
            refine pS_ 25 95 (mb_ 33 67108863) ?_
            refine pS_ 27 97 (mb_ 33 201326591) ?_
            refine t4S_ 26 96 (mb_ 33 268435455) ?_
            refine t4S_ 28 98 (mb_ 33 536870911) ?_
            refine pS_ 29 99 (mb_ 33 1073741823) ?_
            refine one_ (i := 30) (N := some 100) (mb_ 33 2147483647) rfl rfl (one_of HT_.out (by kernel_rfl)) (by decide) (fun K hK => ?_)
            refine goes_ Try.func45 (by kernel_rfl) rfl #[.agg #[.slice A0_0 l0_0.length c0_0, .slice (some ad) l0_1.length c0_1], .int .u64 (IntKind.u64.wrap (Int.tdiv x.f0 16384))] (by rfl) rfl rfl (by simp only [List.map_toArray, List.map_cons, List.map_nil]; rfl) ?_
            with_reducible refine (PL.out _ (show Below w.heap.size w _ from X0.out.drew)).mono ?_
            rintro ex w5 ⟨rfl, hb⟩
            refine ⟨_, rfl, ?_⟩
            have X9 := Lib.hid (show Below w.heap.size w w5 from X0.out.drew.trans (hb.mono X0.out.size))
            have K9 := Lib.hid ((hb.block _ (show w.heap.size < _ from sblk_lt K1.out)).trans K1.out)
            refine hK.out _ _ ⟨((hb.cell (World.block_lt_of_cell? _ _ n0)).trans n0), ((hb.cell (World.block_lt_of_cell? _ _ n1)).trans n1), ((hb.cell (World.block_lt_of_cell? _ _ k0')).trans k0'), ((hb.cell (World.block_lt_of_cell? _ _ k1')).trans k1')⟩ (fun hHeld => ?_)
            clear hK K
            refine nS_ ?_
            refine pS_ 31 101 (mb_ 33 4294967295) ?_
            refine pS_ 32 102 (mb_ 33 8589934591) ?_
            refine done_ (done_of HT_.out (by kernel_rfl)) ?_
            all_goals
              go_wp2
              go_ret
              exact ⟨rfl, X9.out⟩
        obtain ⟨j, hkj⟩ : ∃ j, k = j + 1 := ⟨k - 1, by omega⟩
        have hkb : decide (0 < k) = true := decide_eq_true (by omega)
        have hj1 : j < l0_1.length := by omega
        rw [show prevGe clK l0_1 k x.f0 = decide (l0_1[j].f0 ≥ x.f0) by rw [hkj]; exact prevGe_succ clK l0_1 j hj1 _] at hbm
        obtain ⟨ad2, had2, d0, d1⟩ := at_T88 (Kd.C_below HC.out HB.out) (j : Int) (by omega) (by omega)
        injection had2 with had2
        subst had2
        rw [cl_getR hj1, Int.toNat_natCast] at d0 d1
        replace d0 := (((Below.refl wr.heap.size wr).alloc (Nat.le_refl _) (.cells #[.int .u64 x.f0, .int .u64 x.f1] 88)).cell (World.block_lt_of_cell? _ _ d0)).trans d0
        clear d1
        generalize l0_1[j] = y at d0 hbm
        have hwj : IntKind.i64.wrap ((k : Int) - 1) = (j : Int) := (i64_w _).trans (by unfold wrap64; omega)
        have HKJ := Lib.hid hkj
        clear hkj hk0
        cases hyx : decide (y.f0 ≥ x.f0)
        rotate_left
        · rw [hyx] at hbm
          have hf := NO.out hbm
          obtain rfl : r = false := by rw [← EA2.out, hf]; rfl
          clear YES NO hf hbm PL
          go_wp2_with (fail)
          go_quiet (fail)
          go_wp2
          go_ret
          exact ⟨rfl, pw_below_drewN X0.out _⟩
        rw [hyx, Bool.false_or] at hbm
        cases hpl : decide (placeR l0_0 (IntKind.u64.wrap (Int.tdiv x.f0 16384)) < 0)
        · rw [hpl] at hbm
          have hy := Lib.hid (YES.out hbm)
          clear YES NO hbm
          go_wp2_with (fail)
          generalize wr.alloc (.cells #[.int .u64 x.f0, .int .u64 x.f1] 88) = W2 at X0 N0 K1 k0' k1' d0 ⊢
          have n0 := (sblk_cell N0.out 0).trans rfl
          have n1 := (sblk_cell N0.out 1).trans rfl
          refine start_ (n := 33) (S := fun w' => w'.cell? ⟨wr.heap.size, 0, none⟩ = some (.int .u64 x.f0) ∧ w'.cell? ⟨wr.heap.size, 1, none⟩ = some (.int .u64 x.f1) ∧ w'.cell? ⟨w.heap.size, 0, none⟩ = some (.slice A0_0 l0_0.length c0_0) ∧ w'.cell? ⟨w.heap.size, 1, none⟩ = some (.slice (some ad) l0_1.length c0_1) ∧ w'.cell? (ad.add (j * 2)) = some (.int .u64 y.f0)) (ds := []) (ms_ 33 0) (by kernel_rfl) rfl rfl ⟨n0, n1, k0', k1', d0⟩ (fun hHeld => ?_)
          refine with_tabW ferryref03_Fit.tab13 ferryref03_Fit.bits13 (fun HT_ HW_ => ?_)
          refine pS_ 0 70 (mb_ 33 1) ?_
          refine t5S_ 1 71 (mb_ 33 3) ?_
          refine pS_ 2 72 (mb_ 33 7) ?_
          refine pS_ 3 73 (mb_ 33 15) ?_
          refine pS_ 4 74 (mb_ 33 31) ?_
          refine pS_ 5 75 (mb_ 33 63) ?_
          refine t5S_ 6 76 (mb_ 33 127) ?_
          refine pS_ 7 77 (mb_ 33 255) ?_
          refine pS_ 8 78 (mb_ 33 511) ?_
          refine pS_ 9 79 (mb_ 33 1023) ?_
          refine pS_ 10 80 (mb_ 33 2047) ?_
          refine pS_ 11 81 (mb_ 33 4095) ?_
          refine pS_ 12 82 (mb_ 33 8191) ?_
          refine pS_ 13 83 (mb_ 33 16383) ?_
          refine pS_ 15 85 (mb_ 33 49151) ?_
          refine pS_ 16 86 (mb_ 33 114687) ?_
          refine pS_ 20 90 (mb_ 33 1163263) ?_
          refine t5S_ 14 84 (mb_ 33 1179647) ?_
          refine pS_ 17 87 (mb_ 33 1310719) ?_
          refine pS_ 18 88 (mb_ 33 1572863) ?_
          refine t5S_ 19 89 (mb_ 33 2097151) ?_
          refine t5S_ 21 91 (mb_ 33 4194303) ?_
          refine pS_ 22 92 (mb_ 33 8388607) ?_
          refine pS_ 23 93 (mb_ 33 16777215) ?_
          refine pS_ 24 94 (mb_ 33 33554431) ?_
          refine pS_ 25 95 (mb_ 33 67108863) ?_
          refine pS_ 27 97 (mb_ 33 201326591) ?_
          refine t5S_ 26 96 (mb_ 33 268435455) ?_
          refine t5S_ 28 98 (mb_ 33 536870911) ?_
          refine pS_ 29 99 (mb_ 33 1073741823) ?_
          refine one_ (i := 30) (N := some 100) (mb_ 33 2147483647) rfl rfl (one_of HT_.out (by kernel_rfl)) (by decide) (fun K hK => ?_)
          refine goes_ Try.func45 (by kernel_rfl) rfl #[.agg #[.slice A0_0 l0_0.length c0_0, .slice (some ad) l0_1.length c0_1], .int .u64 (IntKind.u64.wrap (Int.tdiv x.f0 16384))] (by rfl) rfl rfl (by simp only [List.map_toArray, List.map_cons, List.map_nil]; rfl) ?_
          with_reducible refine (PL.out _ (show Below w.heap.size w _ from X0.out.drew)).mono ?_
          rintro ex w5 ⟨rfl, hb⟩
          refine ⟨_, rfl, ?_⟩
          have X9 := Lib.hid (show Below w.heap.size w w5 from X0.out.drew.trans (hb.mono X0.out.size))
          have K9 := Lib.hid ((hb.block _ (show w.heap.size < _ from sblk_lt K1.out)).trans K1.out)
          refine hK.out _ _ ⟨((hb.cell (World.block_lt_of_cell? _ _ n0)).trans n0), ((hb.cell (World.block_lt_of_cell? _ _ n1)).trans n1), ((hb.cell (World.block_lt_of_cell? _ _ k0')).trans k0'), ((hb.cell (World.block_lt_of_cell? _ _ k1')).trans k1'), ((hb.cell (World.block_lt_of_cell? _ _ d0)).trans d0)⟩ (fun hHeld => ?_)
          clear hK K
          refine nS_ ?_
          refine pS_ 31 101 (mb_ 33 4294967295) ?_
          refine pS_ 32 102 (mb_ 33 8589934591) ?_
          refine done_ (done_of HT_.out (by kernel_rfl)) ?_
          all_goals
            go_wp2
            exact ⟨⟨k + 1, by go_num, hlt, hy, X9, K9⟩, by simp [intOf]; omega⟩
        · rw [hpl] at hbm
          have hf := NO.out hbm
          obtain rfl : r = false := by rw [← EA2.out, hf]; rfl
          clear YES NO hf hbm
          go_wp2_with (fail)
          generalize wr.alloc (.cells #[.int .u64 x.f0, .int .u64 x.f1] 88) = W2 at X0 N0 K1 k0' k1' d0 ⊢
          have n0 := (sblk_cell N0.out 0).trans rfl
          have n1 := (sblk_cell N0.out 1).trans rfl
          refine start_ (n := 33) (S := fun w' => w'.cell? ⟨wr.heap.size, 0, none⟩ = some (.int .u64 x.f0) ∧ w'.cell? ⟨wr.heap.size, 1, none⟩ = some (.int .u64 x.f1) ∧ w'.cell? ⟨w.heap.size, 0, none⟩ = some (.slice A0_0 l0_0.length c0_0) ∧ w'.cell? ⟨w.heap.size, 1, none⟩ = some (.slice (some ad) l0_1.length c0_1) ∧ w'.cell? (ad.add (j * 2)) = some (.int .u64 y.f0)) (ds := []) (ms_ 33 0) (by kernel_rfl) rfl rfl ⟨n0, n1, k0', k1', d0⟩ (fun hHeld => ?_)
          refine with_tabW ferryref03_Fit.tab13 ferryref03_Fit.bits13 (fun HT_ HW_ => ?_)
          refine pS_ 0 70 (mb_ 33 1) ?_
          refine t5S_ 1 71 (mb_ 33 3) ?_
          refine pS_ 2 72 (mb_ 33 7) ?_
          refine pS_ 3 73 (mb_ 33 15) ?_
          refine pS_ 4 74 (mb_ 33 31) ?_
          refine pS_ 5 75 (mb_ 33 63) ?_
          refine t5S_ 6 76 (mb_ 33 127) ?_
          refine pS_ 7 77 (mb_ 33 255) ?_
          refine pS_ 8 78 (mb_ 33 511) ?_
          refine pS_ 9 79 (mb_ 33 1023) ?_
          refine pS_ 10 80 (mb_ 33 2047) ?_
          refine pS_ 11 81 (mb_ 33 4095) ?_
          refine pS_ 12 82 (mb_ 33 8191) ?_
          refine pS_ 13 83 (mb_ 33 16383) ?_
          refine pS_ 15 85 (mb_ 33 49151) ?_
          refine pS_ 16 86 (mb_ 33 114687) ?_
          refine pS_ 20 90 (mb_ 33 1163263) ?_
          refine t5S_ 14 84 (mb_ 33 1179647) ?_
          refine pS_ 17 87 (mb_ 33 1310719) ?_
          refine pS_ 18 88 (mb_ 33 1572863) ?_
          refine t5S_ 19 89 (mb_ 33 2097151) ?_
          refine t5S_ 21 91 (mb_ 33 4194303) ?_
          refine pS_ 22 92 (mb_ 33 8388607) ?_
          refine pS_ 23 93 (mb_ 33 16777215) ?_
          refine pS_ 24 94 (mb_ 33 33554431) ?_
          refine pS_ 25 95 (mb_ 33 67108863) ?_
          refine pS_ 27 97 (mb_ 33 201326591) ?_
          refine t5S_ 26 96 (mb_ 33 268435455) ?_
          refine t5S_ 28 98 (mb_ 33 536870911) ?_
          refine pS_ 29 99 (mb_ 33 1073741823) ?_
          refine one_ (i := 30) (N := some 100) (mb_ 33 2147483647) rfl rfl (one_of HT_.out (by kernel_rfl)) (by decide) (fun K hK => ?_)
          refine goes_ Try.func45 (by kernel_rfl) rfl #[.agg #[.slice A0_0 l0_0.length c0_0, .slice (some ad) l0_1.length c0_1], .int .u64 (IntKind.u64.wrap (Int.tdiv x.f0 16384))] (by rfl) rfl rfl (by simp only [List.map_toArray, List.map_cons, List.map_nil]; rfl) ?_
          with_reducible refine (PL.out _ (show Below w.heap.size w _ from X0.out.drew)).mono ?_
          rintro ex w5 ⟨rfl, hb⟩
          refine ⟨_, rfl, ?_⟩
          have X9 := Lib.hid (show Below w.heap.size w w5 from X0.out.drew.trans (hb.mono X0.out.size))
          have K9 := Lib.hid ((hb.block _ (show w.heap.size < _ from sblk_lt K1.out)).trans K1.out)
          refine hK.out _ _ ⟨((hb.cell (World.block_lt_of_cell? _ _ n0)).trans n0), ((hb.cell (World.block_lt_of_cell? _ _ n1)).trans n1), ((hb.cell (World.block_lt_of_cell? _ _ k0')).trans k0'), ((hb.cell (World.block_lt_of_cell? _ _ k1')).trans k1'), ((hb.cell (World.block_lt_of_cell? _ _ d0)).trans d0)⟩ (fun hHeld => ?_)
          clear hK K
          refine nS_ ?_
          refine pS_ 31 101 (mb_ 33 4294967295) ?_
          refine pS_ 32 102 (mb_ 33 8589934591) ?_
          refine done_ (done_of HT_.out (by kernel_rfl)) ?_
          all_goals
            go_wp2
            go_ret
            exact ⟨rfl, X9.out⟩
      have hany : (List.range l0_1.length).any (badC l0_0 l0_1) = false := any_range_no (fun j hj => hn.out j (by omega))
      obtain rfl : r = true := by rw [← EA2.out, hany]; rfl
      clear hn hany
      go_wp2
      go_ret
      exact ⟨rfl, HB.out⟩
end Go.Proofs.Ytgkjdpdmmlalcaa.F
end
