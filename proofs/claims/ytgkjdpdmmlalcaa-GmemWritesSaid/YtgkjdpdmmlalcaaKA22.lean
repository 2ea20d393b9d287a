import Derived.Test.YtgkjdpdmmlalcaaKZF0
import Derived.Test.YtgkjdpdmmlalcaaKA0
import Derived.Test.YtgkjdpdmmlalcaaKA2HHost0
import Derived.Test.YtgkjdpdmmlalcaaKA3
import Derived.Test.YtgkjdpdmmlalcaaKA5
import Derived.Test.YtgkjdpdmmlalcaaKA7
import Derived.Test.YtgkjdpdmmlalcaaKA8HHost6
import Derived.Test.YtgkjdpdmmlalcaaKA10PHost6
import Derived.Test.YtgkjdpdmmlalcaaKA12PHost7
import Derived.Test.YtgkjdpdmmlalcaaKA13FHostLoad
import Derived.Test.YtgkjdpdmmlalcaaKA14
import Derived.Test.YtgkjdpdmmlalcaaKA16
import Derived.Test.YtgkjdpdmmlalcaaKA17FFerryref04Fit
import Derived.Test.YtgkjdpdmmlalcaaKA18
import Derived.Test.YtgkjdpdmmlalcaaKA20
import Derived.Test.YtgkjdpdmmlalcaaKA21HSwap
section
namespace Go.Proofs.Ytgkjdpdmmlalcaa.F
open Go.RowKit Go.Proofs.YtgkjdpdmmlalcaaW.PrintWords Go.Proofs.YtgkjdpdmmlalcaaW.PrintLast Go.Proofs.YtgkjdpdmmlalcaaW.PrintMore
attribute [local go_sem] max2_int min2_int max_two min_two max_three min_three max_four min_four
set_option linter.unusedVariables false
set_option linter.unusedSimpArgs false

def swap_Be.f (a0 : ByteArray) : Option (Int) := (swap_number.f a0 false).bind fun t148 => (some t148)
set_option maxHeartbeats 8000000 in
set_option maxRecDepth 100000 in
theorem swap_Be.calls (a0 : ByteArray) (r : Int) (w : World) (h : swap_Be.f a0 = some r) :
    Calls Try.prog 49 #[.string a0] w fun e w' => e = .returned (.int .u64 r) ∧ Below w.heap.size w w' := by
  have HB := Aside0.mk (Below.refl w.heap.size w)
  have H : ((swap_number.f a0 false).bind fun t148 => (some t148)) = some r := h
  clear h
  replace H := Option.bind_eq_some_iff.mp H
  obtain ⟨t148, A20, H⟩ := H
  have A2 := Aside0.mk A20
  clear A20
  obtain rfl := Option.some.inj H
  go_enter Try.func49, Try.ntmps49
  go_wp2_with (first | ((with_reducible refine gate_callee (f := 80) rfl ?_); refine gL_ (some 4) Try.func80 #[.string a0, .bool false] ?_; (with_reducible refine (swap_number.calls a0 false t148 _ A2.out).mono ?_); rintro e w3 ⟨rfl, hb⟩; refine ⟨_, rfl, ?_⟩; replace HB := hB_ hb; (try clear hb); (try clear hb2); (try clear hk); (try clear hi)))
  go_ret
  exact ⟨r3_, beT_⟩

end Go.Proofs.Ytgkjdpdmmlalcaa.F
end
section
namespace Go.Proofs.Ytgkjdpdmmlalcaa.F
open Go.RowKit Go.Proofs.YtgkjdpdmmlalcaaW.PrintWords Go.Proofs.YtgkjdpdmmlalcaaW.PrintLast Go.Proofs.YtgkjdpdmmlalcaaW.PrintMore
attribute [local go_sem] max2_int min2_int max_two min_two max_three min_three max_four min_four
set_option linter.unusedVariables false
set_option linter.unusedSimpArgs false

mutual
def ferryref01_PutBe.j0 : Nat → Int → Int → Bool → Option (ByteArray)
  | 0, _, _, _ => none
  | k + 1, x0, x1, x12 => if x12 = true then (some (⟨#[]⟩ : ByteArray)) else (if 0 ≤ x1 then (if (x1 : Int).toNat ≤ 281474976710656 then (ferryref01_PutBe.l0 k x0 (List.replicate (x1 : Int).toNat 0) (wrap64 (x1 - 1))) else (none)) else (none))
def ferryref01_PutBe.l0 : Nat → Int → List Int → Int → Option (ByteArray)
  | 0, _, _, _ => none
  | k + 1, x0, x5, x6 => if x6 ≥ 0 then (if 0 ≤ x6 then (if x6 < (x5.length : Int) then (ferryref01_PutBe.l0 k (IntKind.u64.wrap (Int.tdiv x0 256)) (x5.set (x6 : Int).toNat ((Int.tmod x0 256) % 256)) (wrap64 (x6 - 1))) else (none)) else (none)) else (some (strOfNums x5))
end
def ferryref01_PutBe.f (k : Nat) (a0 : Int) (a1 : Int) : Option (ByteArray) := if a1 < 0 then (ferryref01_PutBe.j0 k a0 a1 true) else (ferryref01_PutBe.j0 k a0 a1 (decide (a1 > 8)))
set_option maxHeartbeats 8000000 in
set_option maxRecDepth 100000 in
theorem ferryref01_PutBe.calls (k : Nat) (a0 : Int) (a1 : Int) (r : ByteArray) (w : World) (h : ferryref01_PutBe.f k a0 a1 = some r) :
    Calls Try.prog 53 #[.int .u64 a0, .int .i64 a1] w fun e w' => e = .returned (.string r) ∧ Below w.heap.size w w' := by
  have HB := Aside0.mk (Below.refl w.heap.size w)
  have H : (if a1 < 0 then (ferryref01_PutBe.j0 k a0 a1 true) else (ferryref01_PutBe.j0 k a0 a1 (decide (a1 > 8)))) = some r := h
  clear h
  have HC3 := Aside0.mk H
  clear H
  go_enter Try.func53, Try.ntmps53
  go_upto_region 1 with (fail)
  go_cut [12] (fun v12 wc => ∃ (kq : Nat) (x12_2 : Bool), v12 = .bool x12_2 ∧ Aside0 (ferryref01_PutBe.j0 kq a0 a1 x12_2 = some r) ∧ Aside0 (kq ≤ k) ∧ Aside0 (Below w.heap.size w wc))
  case first =>
    have H := HC3.out
    clear HC3
    by_cases c4 : a1 < 0
    · rw [if_pos c4] at H
      have c4b0 : decide (a1 < 0) = true := decide_eq_true c4
      clear c4
      (first | rw [c4b0] | (simp only [i64_w, i32_w]; rw [c4b0]) | skip)
      have H' := Aside0.mk H
      clear H
      go_wp2
      go_meet
      case rel => exact ⟨_, (true), r1_, H', ⟨r2_⟩, ⟨beT_⟩⟩
    rw [if_neg c4] at H
    have c4b0 : decide (a1 < 0) = false := decide_eq_false c4
    clear c4
    (first | rw [c4b0] | (simp only [i64_w, i32_w]; rw [c4b0]) | skip)
    have H' := Aside0.mk H
    clear H
    go_wp2
    go_meet
    case rel => exact ⟨_, (decide (a1 > 8)), r1_, H', ⟨r2_⟩, ⟨beT_⟩⟩
  case rest =>
    clear HC3
    try clear p2
    try clear c4
    try clear c4b0
    obtain ⟨kq, x12_2, rfl, HA, HJ2, HB⟩ := hcut
    cases kq with
    | zero => exact absurd HA.out (by simp [ferryref01_PutBe.j0])
    | succ kj2 =>
      have H := HA.out
      clear HA
      simp only [ferryref01_PutBe.j0] at H
      by_cases c5 : x12_2 = true
      · subst c5
        replace H := hP_ H
        obtain rfl := Option.some.inj H
        go_wp2
        go_ret
        exact ⟨r3_, beT_⟩
      replace c5 := Bool.eq_false_iff.mpr c5
      subst c5
      replace H := hN_ H
      by_cases c6 : 0 ≤ a1
      · rw [if_pos c6] at H
        have c6b0 := eq_true c6
        have c6b1 : decide (0 ≤ a1) = true := decide_eq_true c6
        clear c6
        by_cases c7 : (a1 : Int).toNat ≤ 281474976710656
        · rw [if_pos c7] at H
          have c7b0 := eq_true c7
          have c7b1 : decide ((a1 : Int).toNat ≤ 281474976710656) = true := decide_eq_true c7
          clear c7
          obtain ⟨y378, hy378⟩ : ∃ y_ : List Int, y_ = (List.replicate (a1 : Int).toNat 0) := ⟨_, rfl⟩
          replace H : (ferryref01_PutBe.l0 kj2 a0 y378 (wrap64 (a1 - 1))) = some r := by first | (rw [hy378]; with_reducible exact H) | (have H2_ := (Option.bind_some _ _).symm.trans H; rw [hy378]; with_reducible exact H2_) | (have H2_ := (Option.bind_some _ _).symm.trans H; with_reducible exact H2_) | with_reducible exact H | (rw [hy378]; exact H) | exact H
          have Ny378 := Aside0.mk hy378
          clear hy378
          have H' := Aside0.mk H
          clear H
          go_wp2_with (first | ((with_reducible refine gate_dst (N := 14) rfl ?_); refine Kd.R_make (Kd.int .u8) _ 5 rfl (N := 14) rfl 93 _ _ rfl a1 rfl rfl Try.underlying93 (.int .u8 0) 1 info5 rfl (by decide) (by omega) 0 (ok := fun _ => True) (okp := fun _ => True) rfl (fun _ hk => hk) trivial (dT_) (Nat.le_trans (Nat.mul_le_mul_right _ (dT_ : a1.toNat ≤ 281474976710656)) (by omega)) (Below.refl _ _) (Nat.le_refl _) ?_; intro v379 w8 ho9 hb hg_ hnew_; clear hg_ hnew_; (first | rw [← Ny378.out] at ho9 | (simp only [Int.reduceToNat] at ho9; rw [← Ny378.out] at ho9)); have HO380 := Aside0.mk (Kd.R_lower ho9 (below_size beT_)); replace HB := hB_ hb; clear hb ho9))
          go_loopg [0, 6] kj2 (fun kq v0 v6 w' => ∃ (x0_2 : Int) (x5_2 : List Int) (x6_2 : Int), v0 = .int .u64 x0_2 ∧ v6 = .int .i64 x6_2 ∧ Aside0 (ferryref01_PutBe.l0 kq x0_2 x5_2 x6_2 = some r) ∧ Aside0 (kq ≤ kj2) ∧ Aside0 (Kd.R (Kd.int .u8) 5 w' w.heap.size (fun _ => True) v379 x5_2) ∧ Aside0 (Below w.heap.size w w'))
          case atStart => exact ⟨(a0), (y378), (wrap64 (a1 - 1)), r1_, r1_, H', ⟨Nat.le_refl _⟩, ⟨rT_ HO380.out⟩, ⟨beT_⟩⟩
          case round =>
            clear H'
            try clear p2
            try clear c4
            try clear c4b0
            try clear c5
            try clear c6
            try clear c6b0
            try clear c6b1
            try clear p6
            try clear c7
            try clear c7b0
            try clear c7b1
            try clear p2
            obtain ⟨x0_2, x5_2, x6_2, rfl, rfl, HA, HK2, HO_5, HB⟩ := hrel
            cases gk with
            | zero => exact absurd HA.out (by simp [ferryref01_PutBe.l0])
            | succ k2 =>
              have H := HA.out
              clear HA
              simp only [ferryref01_PutBe.l0] at H
              by_cases c10 : x6_2 ≥ 0
              · rw [if_pos c10] at H
                have c10b0 : decide (0 ≤ x6_2) = true := decide_eq_true c10
                clear c10
                by_cases c11 : 0 ≤ x6_2
                · rw [if_pos c11] at H
                  have c11b0 : decide (0 ≤ x6_2) = true := decide_eq_true c11
                  clear c11
                  by_cases c12 : x6_2 < (x5_2.length : Int)
                  · rw [if_pos c12] at H
                    have c12b0 : decide (x6_2 < (x5_2.length : Int)) = true := decide_eq_true c12
                    clear c12
                    obtain ⟨y381, hy381⟩ : ∃ y_ : List Int, y_ = (x5_2.set (x6_2 : Int).toNat ((Int.tmod x0_2 256) % 256)) := ⟨_, rfl⟩
                    replace H : (ferryref01_PutBe.l0 k2 (IntKind.u64.wrap (Int.tdiv x0_2 256)) y381 (wrap64 (x6_2 - 1))) = some r := by first | (rw [hy381]; with_reducible exact H) | (have H2_ := (Option.bind_some _ _).symm.trans H; rw [hy381]; with_reducible exact H2_) | (have H2_ := (Option.bind_some _ _).symm.trans H; with_reducible exact H2_) | with_reducible exact H | (rw [hy381]; exact H) | exact H
                    have Ny381 := Aside0.mk hy381
                    clear hy381
                    have H' := Aside0.mk H
                    clear H
                    have p13 : 0 ≤ (x6_2 : Int) := dT_
                    have q13 : (x6_2 : Int) < ((x5_2.length : Int) : Int) := dT_
                    obtain ⟨go13, co13, eo13, gb13, gl13, cl13, HG13⟩ := Kd.R_form HO_5.out (by omega)
                    (first | cases eo13 | (injection eo13 with ea_ en_ ec_; (first | subst ea_ | (injection ea_ with ea_; subst ea_)); subst ec_; clear en_))
                    have GB13 := Aside0.mk gb13
                    have GG13 := Aside0.mk HG13
                    clear gb13 gl13 HG13
                    obtain ⟨hx13_0, hf13_0⟩ := Kd.R_celln 0 HO_5.out (x6_2 : Int) p13 q13
                    replace p13 := eq_true p13
                    replace q13 := eq_true q13
                    have HP14 := Kd.R_putg HO_5.out (x6_2 : Int) ((Int.tmod x0_2 256) % 256)
                    go_wp2_with (first | ((with_reducible refine gate_store (t := 5) (p := 26) rfl ?_); refine store_event (t := 5) (p := 26) (v := ?vo_w15) (w1 := (wr.setCell ⟨go13, (x6_2 : Int).toNat, none⟩ (.int .u8 ((Int.tmod x0_2 256) % 256)))) ?hg ?ho ?hn ?hr ?_; (case ho => rfl); (case hg => rfl); (case hn => rfl); (case hr => first | (go_simp; done) | (go_simp; rfl)); intro w15 hw; have hg : wr.grownBy w15 (some go13) := (by rw [hw]; exact HP14.2); have hp_ : Kd.R (Kd.int .u8) 5 w15 w.heap.size (fun _ => True) (.slice (some ⟨go13, 0, none⟩) x5_2.length co13) y381 := (by rw [hw, Ny381.out]; exact HP14.1); clear HP14; replace HO_5 := Aside0.mk hp_; replace HB := Aside0.mk ((by rw [hw]; exact below_set (HB.out) GB13.out : Below w.heap.size w w15)); clear hg hw hp_))
                    go_roundg k2
                    case measure => have := HJ2.out; have := HK2.out; omega
                    case rel => exact ⟨(IntKind.u64.wrap (Int.tdiv x0_2 256)), (y381), (wrap64 (x6_2 - 1)), r1_, r1_, H', ⟨by have := HJ2.out; have := HK2.out; omega⟩, ⟨rT_ HO_5.out⟩, ⟨beT_⟩⟩
                  rw [if_neg c12] at H
                  exact absurd H (by simp)
                rw [if_neg c11] at H
                exact absurd H (by simp)
              rw [if_neg c10] at H
              have c10b0 : decide (0 ≤ x6_2) = false := decide_eq_false c10
              clear c10
              obtain rfl := Option.some.inj H
              have hcv16 := own_string (P := Try.prog) Try.underlying93 Try.underlying5 Try.underlying9 (Kd.own_of_R HO_5.out)
              go_wp2
              go_ret
              exact ⟨r3_, beT_⟩
        rw [if_neg c7] at H
        exact absurd H (by simp)
      rw [if_neg c6] at H
      exact absurd H (by simp)

end Go.Proofs.Ytgkjdpdmmlalcaa.F
end
section
namespace Go.Proofs.Ytgkjdpdmmlalcaa.F
open Go.RowKit Go.Proofs.YtgkjdpdmmlalcaaW.PrintWords Go.Proofs.YtgkjdpdmmlalcaaW.PrintLast Go.Proofs.YtgkjdpdmmlalcaaW.PrintMore
set_option linter.unusedVariables false
theorem rBys_mk (l : List UInt8) (b : Bool) : bys ⟨l.toArray⟩ b = if b then l.reverse else l := by
  cases b <;> rfl
theorem rPutBe_eq (v : Int) (n : Nat) (hn : n ≤ 8) : swap_PutBe.f v (n : Int) = some ⟨(leBytes v n).reverse.toArray⟩ := by
  unfold swap_PutBe.f swap_PutLe.f
  rw [if_neg (by omega), if_neg (by omega), Int.toNat_natCast]
  simp only [Option.bind_some, rBys_mk, if_true]
theorem bt_bys (s : ByteArray) (i : Nat) (h : i < s.size) : bt s (i : Int) = ((bys s false)[i]'(by rw [bys_length]; exact h)).toNat := by
  unfold bt
  rw [Int.toNat_natCast, dif_pos h]
  rfl
theorem beOf_step (n b : Int) (h0 : 0 ≤ n) (h1 : n < 256 ^ 7) (h2 : 0 ≤ b) (h3 : b ≤ 255) : IntKind.u64.wrap (IntKind.u64.wrap (n * 256) + IntKind.u64.wrap b) = n * 256 + b := by
  have e : (256 : Int) ^ 7 = 72057594037927936 := by rfl
  rw [e] at h1
  rw [u64w, u64w, u64w]
  omega
theorem pow_le7 (n : Nat) (h : n ≤ 7) : (256 : Int) ^ n ≤ 256 ^ 7 := by
  have z : 256 ^ n ≤ 256 ^ 7 := Nat.pow_le_pow_right (by omega) h
  have y := Int.ofNat_le.mpr z
  rw [Int.natCast_pow, Int.natCast_pow] at y
  exact y
def beI (v : Int) (n j : Nat) : List Int := (List.range n).map (fun i => if n - 1 - i < j then v / 256 ^ (n - 1 - i) % 256 else 0)
theorem beI_zero (v : Int) (n : Nat) : beI v n 0 = List.replicate n 0 := by
  apply List.ext_getElem (by simp [beI])
  intro i h1 h2
  simp [beI]
theorem beI_set (v : Int) (n j : Nat) (hj : j < n) : (beI v n j).set (n - 1 - j) (v / 256 ^ j % 256) = beI v n (j + 1) := by
  apply List.ext_getElem (by simp [beI])
  intro i h1 h2
  have hi : i < n := by simpa [beI] using h2
  simp only [beI, List.getElem_set, List.getElem_map, List.getElem_range]
  by_cases e : n - 1 - j = i
  · subst e
    rw [if_pos rfl, if_pos (by omega), show n - 1 - (n - 1 - j) = j by omega]
  rw [if_neg e]
  by_cases hl : n - 1 - i < j
  · rw [if_pos hl, if_pos (by omega)]
  rw [if_neg hl, if_neg (by omega)]
theorem strOf_beI (v : Int) (n : Nat) : strOfNums (beI v n n) = ⟨(leBytes v n).reverse.toArray⟩ := by
  unfold strOfNums beI leBytes
  congr 2
  apply List.ext_getElem (by simp)
  intro i h1 h2
  have hi : i < n := by simpa using h2
  have h : n - 1 - i < n := by omega
  simp [h]
theorem byte_step (v : Int) (j : Nat) (h0 : 0 ≤ v) (h1 : v ≤ 18446744073709551615) : Int.tmod (v / 256 ^ j) 256 % 256 = v / 256 ^ j % 256 ∧ IntKind.u64.wrap (Int.tdiv (v / 256 ^ j) 256) = v / 256 ^ (j + 1) := by
  have hq : 0 ≤ v / 256 ^ j := Int.ediv_nonneg h0 (Int.pow_nonneg (by decide))
  have hq1 : v / 256 ^ j ≤ v := Int.ediv_le_self _ h0
  rw [Int.tmod_eq_emod_of_nonneg hq, Int.tdiv_eq_ediv_of_nonneg hq, div256, u64w]
  have hq2 : 0 ≤ v / 256 ^ (j + 1) := Int.ediv_nonneg h0 (Int.pow_nonneg (by decide))
  have hq3 : v / 256 ^ (j + 1) ≤ v := Int.ediv_le_self _ h0
  omega
theorem ref_PutBe_loop (v : Int) (n : Nat) (h0 : 0 ≤ v) (h1 : v ≤ 18446744073709551615) (hn : n ≤ 8) : ∀ (d k j : Nat), j + d = n → d < k → ferryref01_PutBe.l0 k (v / 256 ^ j) (beI v n j) ((d : Int) - 1) = some (strOfNums (beI v n n))
  | 0, k, j, h, hk => by
    obtain ⟨k, rfl⟩ : ∃ m, k = m + 1 := ⟨k - 1, by omega⟩
    obtain rfl : j = n := by omega
    simp only [ferryref01_PutBe.l0]
    rw [if_neg (by omega)]
  | d + 1, k, j, h, hk => by
    obtain ⟨k, rfl⟩ : ∃ m, k = m + 1 := ⟨k - 1, by omega⟩
    have hs := byte_step v j h0 h1
    have ih := ref_PutBe_loop v n h0 h1 hn d k (j + 1) (by omega) (by omega)
    have e0 : ((d + 1 : Nat) : Int) - 1 = (d : Int) := by omega
    simp only [ferryref01_PutBe.l0]
    rw [e0, if_pos (by omega), if_pos (by omega), if_pos (by simp [beI]; omega), hs.1, hs.2, w64_id (by omega) (by omega), Int.toNat_natCast, show d = n - 1 - j by omega, beI_set v n j (by omega), show n - 1 - j = d by omega]
    exact ih
theorem ref_PutBe_spec (v n : Int) (k : Nat) (hk : 11 ≤ k) (h0 : 0 ≤ v) (h1 : v ≤ 18446744073709551615) : ferryref01_PutBe.f k v n = swap_PutBe.f v n := by
  obtain ⟨k, rfl⟩ : ∃ m, k = m + 1 := ⟨k - 1, by omega⟩
  unfold ferryref01_PutBe.f swap_PutBe.f swap_PutLe.f
  by_cases hn : n < 0
  · rw [if_pos hn, if_pos hn]
    simp only [ferryref01_PutBe.j0]
    rfl
  rw [if_neg hn, if_neg hn]
  simp only [ferryref01_PutBe.j0]
  by_cases hn2 : n > 8
  · rw [if_pos hn2, if_pos (decide_eq_true hn2)]
    rfl
  rw [if_neg hn2, if_neg (by rw [decide_eq_true_eq]; exact hn2), if_pos (by omega), if_pos (by omega)]
  obtain ⟨m, rfl⟩ : ∃ m : Nat, n = m := ⟨n.toNat, by omega⟩
  rw [Int.toNat_natCast]
  have := ref_PutBe_loop v m h0 h1 (by omega) m k 0 (by omega) (by omega)
  rw [beI_zero, Int.pow_zero, Int.ediv_one] at this
  rw [w64_id (by omega) (by omega), this, strOf_beI]
  simp [bys]
end Go.Proofs.Ytgkjdpdmmlalcaa.F
end
section
namespace Go.Proofs.Ytgkjdpdmmlalcaa.F
open Go.RowKit Go.Shelf Go.Proofs.YtgkjdpdmmlalcaaW.PrintWords Go.Proofs.YtgkjdpdmmlalcaaW.PrintLast Go.Proofs.YtgkjdpdmmlalcaaW.PrintMore
set_option linter.unusedVariables false
set_option linter.unusedSimpArgs false
attribute [local go_sem] Oper.semAt_some
def kindS (p : List SP) (need x : Int) : Int := if x < 4294967296 then (if protP p (x / 4096 % 4294967296) < 0 then 1 else if Go.bits .and .i64 (protP p (x / 4096 % 4294967296)) need = need then 0 else 2) else 1
def spanL (a n : Int) : List Int := (List.range n.toNat).map (fun (i : Nat) => a + (i : Int))
theorem spanL_len (a n : Int) : (spanL a n).length = n.toNat := by simp [spanL]
theorem spanL_take (a n : Int) (k : Nat) (h : k < n.toNat) : (spanL a n).take (k + 1) = (spanL a n).take k ++ [a + (k : Int)] := by
  rw [List.take_succ_eq_append_getElem (by rw [spanL_len]; exact h)]
  congr 2
  simp [spanL]
theorem spanL_mod {a n : Int} (h0 : 0 ≤ a) (h1 : a + n ≤ 18446744073709551616) : ∀ x ∈ spanL a n, x % 18446744073709551616 = x := by
  intro x hx
  simp only [spanL, List.mem_map, List.mem_range] at hx
  obtain ⟨i, hi, rfl⟩ := hx
  omega
structure GRead (w0 : World) (A0 : Option Addr) (c0 : Nat) (l0 : List SM) (A1 : Option Addr) (c1 : Nat) (l1 : List SC) (A3 : Option Addr) (c3 : Nat) (p : List SP) : Prop where
  r0 : Kd.C kM w0 A0 l0.length l0
  n0 : l0.length ≤ c0
  r1 : Kd.C kC w0 A1 l1.length l1
  n1 : l1.length ≤ c1
  r3 : Kd.C kP w0 A3 p.length p
  n3 : p.length ≤ c3
  lp : p.length ≤ 1000000
  rp : Rises pgK p
structure SInv (w0 : World) (B1 B2 B3 B4 : Nat) (gv : Array Value) (a n need : Int) (W : World) : Prop where
  bel : Below w0.heap.size w0 W
  b1 : W.heap[B1]? = some (.cells #[.int .u32 a] 30 (0, 0))
  b2 : W.heap[B2]? = some (.cells #[.int .i64 n] 3 (0, 0))
  b3 : W.heap[B3]? = some (.cells gv 29 (0, 0))
  b4 : W.heap[B4]? = some (.cells #[.int .i64 need] 3 (0, 0))
theorem SInv.below {w0 : World} {B1 B2 B3 B4 : Nat} {gv : Array Value} {a n need : Int} {W W' : World} (h : SInv w0 B1 B2 B3 B4 gv a n need W) (hb : Below W.heap.size W W') : SInv w0 B1 B2 B3 B4 gv a n need W' :=
  ⟨h.bel.trans (hb.mono h.bel.size), blk_below h.b1 hb, blk_below h.b2 hb, blk_below h.b3 hb, blk_below h.b4 hb⟩
theorem SInv.own {w0 : World} {B1 B2 B3 B4 : Nat} {gv : Array Value} {a n need : Int} {W W' : World} {row : Option Nat} (h : SInv w0 B1 B2 B3 B4 gv a n need W) (hg : W.grownBy W' row) (hr : ∀ r, row = some r → w0.heap.size ≤ r ∧ ∃ o : Obj, W.heap[r]? = some o ∧ o.isCells = false) : SInv w0 B1 B2 B3 B4 gv a n need W' :=
  ⟨h.bel.grown hg h.bel.size (fun k e => (hr k e).1), blk_own h.b1 hg (fun r e => (hr r e).2), blk_own h.b2 hg (fun r e => (hr r e).2), blk_own h.b3 hg (fun r e => (hr r e).2), blk_own h.b4 hg (fun r e => (hr r e).2)⟩
set_option maxHeartbeats 8000000 in
set_option maxRecDepth 100000 in
theorem gSpan1_any (w0 : World) (l B1 B2 B3 B4 : Nat) (A0 : Option Addr) (c0 : Nat) (l0 : List SM) (A1 : Option Addr) (c1 : Nat) (l1 : List SC) (b : Int) (A3 : Option Addr) (c3 : Nat) (p : List SP) (a n need : Int)
    (hG : GRead w0 A0 c0 l0 A1 c1 l1 A3 c3 p) (ha : 0 ≤ a) (ha2 : a < 4294967296) (hn : 0 ≤ n) (hn2 : n < 4294967296) (J Jx : List Int → World → Prop) (m : Nat)
    (hY : ∀ pre x W, J pre W → pre.length < n.toNat → 0 ≤ x → x < 18446744073709551616 → YieldAt Fence.wide (m - 1) Try.prog l #[.int .u64 x, .int .i64 (kindS p need x)] W fun e W' =>
      (e = .returned (.bool true) ∧ J (pre ++ [x]) W' ∧ (SInv w0 B1 B2 B3 B4 #[.slice A0 l0.length c0, .slice A1 l1.length c1, .int .u64 b, .slice A3 p.length c3] a n need W → SInv w0 B1 B2 B3 B4 #[.slice A0 l0.length c0, .slice A1 l1.length c1, .int .u64 b, .slice A3 p.length c3] a n need W')) ∨ (e = .returned (.bool false) ∧ Jx (pre ++ [x]) W'))
    (W : World) (hI : SInv w0 B1 B2 B3 B4 #[.slice A0 l0.length c0, .slice A1 l1.length c1, .int .u64 b, .slice A3 p.length c3] a n need W) (hJ : AbidesFrom W.heap.size J) (h0 : J [] W) :
    CallsIn Fence.wide m Try.prog 85 #[.func (.yield l) #[] #[], .pointer (some ⟨B1, 0, none⟩), .pointer (some ⟨B2, 0, none⟩), .pointer (some ⟨B3, 0, none⟩), .pointer (some ⟨B4, 0, none⟩)] W fun e W' => (∃ v, e = .returned v) ∧
      ((∃ ys, ys = spanL a n ∧ J ys W') ∨ (∃ pre, pre <+: spanL a n ∧ Jx pre W')) := by
  have hu2 := Try.underlying29
  have hu3 := Try.underlying25
  have PR := Lib.hid (fun W (hB : Below w0.heap.size w0 W) (x : Int) => guest_Prot.calls A0 c0 l0 A1 c1 l1 b A3 c3 p x _ W (Kd.C_below hG.r0 hB) hG.n0 (Kd.C_below hG.r1 hB) hG.n1 (Kd.C_below hG.r3 hB) hG.n3 (prot_f l0 l1 b hG.lp hG.rp x))
  have JJ := Lib.hid (fun s (W1 W2 : World) (hj : J s W1) (hb : Below W1.heap.size W1 W2) => hJ s W1 W2 none hj (grown_of_below hb) (fun r e => by cases e))
  have HY := Lib.hid hY
  have HI := Lib.hid hI
  have HJ0 := Lib.hid h0
  have NA := Lib.hid (And.intro ha ha2)
  have NN := Lib.hid (And.intro hn hn2)
  clear hY hJ hI h0 hG ha ha2 hn hn2
  have ea : IntKind.u64.wrap a = a := by
    have := NA.out
    simp [IntKind.wrap, IntKind.bits, IntKind.signed]
    omega
  have en : IntKind.u64.wrap n = n := by
    have := NN.out
    simp [IntKind.wrap, IntKind.bits, IntKind.signed]
    omega
  have ean : IntKind.u64.wrap (a + n) = a + n := by
    have := NA.out
    have := NN.out
    simp [IntKind.wrap, IntKind.bits, IntKind.signed]
    omega
  refine callsIn_of_wp Try.func85 rfl trivial ?_ rfl
  simp only [Try.ntmps85, List.size_toArray, List.length_cons, List.length_nil, Nat.reduceAdd, Nat.reduceSub, Array.replicate_succ, Array.replicate_zero, List.push_toArray, List.append_toArray, List.nil_append, List.cons_append]
  have g1 := (sblk_cell HI.out.b1 0).trans rfl
  gi_wp2
  gi_loopw [6] (fun p wr => ∃ k : Nat, p = .int .u64 (a + (k : Int)) ∧ k ≤ n.toNat ∧ J ((spanL a n).take k) wr ∧ SInv w0 B1 B2 B3 B4 #[.slice A0 l0.length c0, .slice A1 l1.length c1, .int .u64 b, .slice A3 _ c3] a n need wr) (fun p wr => (a + n - (intOf p)).toNat)
  case atStart => exact ⟨0, by simp, Nat.zero_le _, HJ0.out, HI.out⟩
  case round =>
    obtain ⟨k, rfl, hk, hJk, hIk⟩ := hrel
    clear g1 HJ0 HI
    have HI := Lib.hid hIk
    have HJ := Lib.hid hJk
    clear hIk hJk
    have q1 := (sblk_cell HI.out.b1 0).trans rfl
    have q2 := (sblk_cell HI.out.b2 0).trans rfl
    have q3_0 := (sblk_cell HI.out.b3 0).trans rfl
    have q3_1 := (sblk_cell HI.out.b3 1).trans rfl
    have q3_2 := (sblk_cell HI.out.b3 2).trans rfl
    have q3_3 := (sblk_cell HI.out.b3 3).trans rfl
    by_cases hlt : k < n.toNat
    · have hd := decide_eq_true (show (k : Int) < n by omega)
      have HT := Lib.hid (spanL_take a n k hlt)
      have HK := Lib.hid hlt
      by_cases hx : a + (k : Int) < 4294967296
      · have hd2 := decide_eq_true hx
        have HX := Lib.hid hx
        have HE := Lib.hid (show IntKind.u64.wrap ((a + (k : Int)).tdiv 4096) % 4294967296 = (a + (k : Int)) / 4096 % 4294967296 by
          have := NA.out
          rw [Int.tdiv_eq_ediv_of_nonneg (by omega)]
          simp only [IntKind.wrap, IntKind.bits, IntKind.signed]
          simp
          try omega)
        clear hlt hx hk
        gi_wp2_with (fail)
        refine ⟨trivial, (fun h => by cases h), ?_⟩
        rw [HE.out]
        refine (callsIn_wide.2 (PR.out wr HI.out.bel ((a + (k : Int)) / 4096 % 4294967296))).mono ?_
        rintro e W1 ⟨rfl, hb⟩
        have HI1 := Lib.hid (HI.out.below hb)
        have HJ1 := Lib.hid (JJ.out _ _ _ HJ.out hb)
        clear HI HJ q1 q2 q3_0 q3_1 q3_2 q3_3 hb
        have q4 := (sblk_cell HI1.out.b4 0).trans rfl
        have hS : kindS p need (a + (k : Int)) = if protP p ((a + (k : Int)) / 4096 % 4294967296) < 0 then 1 else if Go.bits .and .i64 (protP p ((a + (k : Int)) / 4096 % 4294967296)) need = need then 0 else 2 := by
          unfold kindS
          rw [if_pos HX.out]
        generalize protP p ((a + (k : Int)) / 4096 % 4294967296) = q at hS ⊢
        clear hd2
        have hq : (decide (q < 0) = true ∧ kindS p need (a + (k : Int)) = 1) ∨ (decide (q < 0) = false ∧ (Go.bits .and .i64 q need != need) = true ∧ kindS p need (a + (k : Int)) = 2) ∨ (decide (q < 0) = false ∧ (Go.bits .and .i64 q need != need) = false ∧ kindS p need (a + (k : Int)) = 0) := by
          rw [hS]
          by_cases h1 : q < 0
          · exact .inl ⟨decide_eq_true h1, if_pos h1⟩
          rw [if_neg h1]
          by_cases h2 : Go.bits .and .i64 q need = need
          · exact .inr (.inr ⟨decide_eq_false h1, by rw [h2]; simp, if_pos h2⟩)
          exact .inr (.inl ⟨decide_eq_false h1, by simpa using h2, if_neg h2⟩)
        clear hS
        rcases hq with ⟨hb1, hκ⟩ | ⟨hb1, hb2, hκ⟩ | ⟨hb1, hb2, hκ⟩
        all_goals (
          obtain ⟨fn, tmps, assign, body, hy, hR⟩ := HY.out _ (a + (k : Int)) W1 HJ1.out (by rw [List.length_take, spanL_len]; have := HK.out; omega) (by have := NA.out; omega) (by have := NA.out; have := NN.out; have := HK.out; omega)
          rw [hκ] at hy
          clear hκ
          gi_wp2
          refine ⟨(fun h => by cases h), hR.mono ?_⟩
          rintro e W3 (⟨rfl, hJ3, hk3⟩ | ⟨rfl, hJx3⟩)
          · have HI3 := Lib.hid (hk3 HI1.out)
            have HJ3 := Lib.hid hJ3
            clear hk3 hJ3 hR hy
            have HW := Lib.hid (show IntKind.u64.wrap (a + (k : Int) + 1) = a + ((k + 1 : Nat) : Int) by
              have h1 := NA.out
              have h2 := NN.out
              have h3 := HK.out
              simp [IntKind.wrap, IntKind.bits, IntKind.signed]
              omega)
            gi_wp2
            go_roundw
            case rel => exact ⟨k + 1, by rw [HW.out], HK.out, by rw [HT.out]; exact HJ3.out, HI3.out⟩
            case measure =>
              have h1 := HK.out
              have h2 := HW.out
              rw [h2]
              simp [intOf]
              omega
          · gi_wp2
            refine bodyPost_ret (results_none rfl _ _ _) rfl ?_
            exact ⟨⟨_, rfl⟩, .inr ⟨_, ⟨(spanL a n).drop (k + 1), by rw [← HT.out, List.take_append_drop]⟩, hJx3⟩⟩)
      have hd2 := decide_eq_false hx
      have hκ : kindS p need (a + (k : Int)) = 1 := by
        unfold kindS
        rw [if_neg hx]
      clear hlt hx hk
      (
        obtain ⟨fn, tmps, assign, body, hy, hR⟩ := HY.out _ (a + (k : Int)) wr HJ.out (by rw [List.length_take, spanL_len]; have := HK.out; omega) (by have := NA.out; omega) (by have := NA.out; have := NN.out; have := HK.out; omega)
        rw [hκ] at hy
        clear hκ
        gi_wp2
        refine ⟨(fun h => by cases h), hR.mono ?_⟩
        rintro e W3 (⟨rfl, hJ3, hk3⟩ | ⟨rfl, hJx3⟩)
        · have HI3 := Lib.hid (hk3 HI.out)
          have HJ3 := Lib.hid hJ3
          clear hk3 hJ3 hR hy
          have HW := Lib.hid (show IntKind.u64.wrap (a + (k : Int) + 1) = a + ((k + 1 : Nat) : Int) by
            have h1 := NA.out
            have h2 := NN.out
            have h3 := HK.out
            simp [IntKind.wrap, IntKind.bits, IntKind.signed]
            omega)
          gi_wp2
          go_roundw
          case rel => exact ⟨k + 1, by rw [HW.out], HK.out, by rw [HT.out]; exact HJ3.out, HI3.out⟩
          case measure =>
            have h1 := HK.out
            have h2 := HW.out
            rw [h2]
            simp [intOf]
            omega
        · gi_wp2
          refine bodyPost_ret (results_none rfl _ _ _) rfl ?_
          exact ⟨⟨_, rfl⟩, .inr ⟨_, ⟨(spanL a n).drop (k + 1), by rw [← HT.out, List.take_append_drop]⟩, hJx3⟩⟩)
    have hd := decide_eq_false (show ¬ (k : Int) < n by omega)
    have e : k = n.toNat := by omega
    have HJ2 : Hid (J (spanL a n) wr) := by
      have h := HJ.out
      rw [e, List.take_of_length_le (by rw [spanL_len]; exact Nat.le_refl _)] at h
      exact h
    clear HJ e hlt hk
    gi_wp2
    go_end0
    exact ⟨⟨_, rfl⟩, .inl ⟨_, rfl, HJ2.out⟩⟩
theorem gSpan_stops (m : Nat) (w0 : World) (B1 B2 B3 B4 : Nat) (A0 : Option Addr) (c0 : Nat) (l0 : List SM) (A1 : Option Addr) (c1 : Nat) (l1 : List SC) (b : Int) (A3 : Option Addr) (c3 : Nat) (p : List SP) (a n need : Int)
    (hG : GRead w0 A0 c0 l0 A1 c1 l1 A3 c3 p) (ha : 0 ≤ a) (ha2 : a < 4294967296) (hn : 0 ≤ n) (hn2 : n < 4294967296) (w : World) (hI : SInv w0 B1 B2 B3 B4 #[.slice A0 l0.length c0, .slice A1 l1.length c1, .int .u64 b, .slice A3 p.length c3] a n need w) :
    SeqStopsK Fence.wide m Try.prog 85 #[.pointer (some ⟨B1, 0, none⟩), .pointer (some ⟨B2, 0, none⟩), .pointer (some ⟨B3, 0, none⟩), .pointer (some ⟨B4, 0, none⟩)] (fun x : Int => #[.int .u64 (x % 18446744073709551616), .int .i64 (kindS p need (x % 18446744073709551616))])
      (fun W W' => SInv w0 B1 B2 B3 B4 #[.slice A0 l0.length c0, .slice A1 l1.length c1, .int .u64 b, .slice A3 p.length c3] a n need W → SInv w0 B1 B2 B3 B4 #[.slice A0 l0.length c0, .slice A1 l1.length c1, .int .u64 b, .slice A3 p.length c3] a n need W') (fun xs => xs = spanL a n) (fun pre => pre <+: spanL a n) n.toNat w :=
  fun l J Jx W hW hJ _ hY h0 => gSpan1_any w0 l B1 B2 B3 B4 A0 c0 l0 A1 c1 l1 b A3 c3 p a n need hG ha ha2 hn hn2 J Jx m (fun pre x W hj hl x0 x1 => by have h := hY pre x W hj hl; dsimp only at h; rwa [Int.emod_eq_of_lt x0 x1] at h) W (hI.below hW) hJ h0
theorem sinv_b {w0 : World} {B1 B2 B3 B4 : Nat} {gv : Array Value} {a n need : Int} {w : World} (hw : w0.heap.size ≤ w.heap.size) (W : World) (l : Nat) (o o' : Obj) (h0 : w.heap.size ≤ l) (hl : W.heap[l]? = some o) (hc : o.isCells = false) (_ : o.isWalk = false) : SInv w0 B1 B2 B3 B4 gv a n need W → SInv w0 B1 B2 B3 B4 gv a n need (W.putObj l o') :=
  fun h => h.own (grownBy_putObj' W l o') (fun r e => by cases e; exact ⟨Nat.le_trans hw h0, o, hl, hc⟩)
theorem gSpan.calls (gv : Array Value) (hgv : ∃ v0 v1 v2 v3 : Value, gv = #[v0, v1, v2, v3] ∧ True) (a n need : Int) (w : World) :
    Calls Try.prog 57 #[.agg gv, .int .u32 a, .int .i64 n, .int .i64 need] w fun e w' => e = .returned (.func (.func 85) #[] #[.pointer (some ⟨w.heap.size + 1, 0, none⟩), .pointer (some ⟨w.heap.size + 1 + 1, 0, none⟩), .pointer (some ⟨w.heap.size, 0, none⟩), .pointer (some ⟨w.heap.size + 1 + 1 + 1, 0, none⟩)]) ∧
      w' = (((w.alloc (.cells gv 29)).alloc (.cells #[.int .u32 a] 30)).alloc (.cells #[.int .i64 n] 3)).alloc (.cells #[.int .i64 need] 3) := by
  have hu2 := Try.underlying29
  obtain ⟨v0, v1, v2, v3, rfl, _⟩ := hgv
  go_enter Try.func57, Try.ntmps57
  go_wp2
  go_ret
  exact ⟨rfl, rfl⟩
end Go.Proofs.Ytgkjdpdmmlalcaa.F
end
section
namespace Go.Proofs.Ytgkjdpdmmlalcaa.F
open Go.RowKit Go.Shelf Go.Proofs.YtgkjdpdmmlalcaaW.PrintWords Go.Proofs.YtgkjdpdmmlalcaaW.PrintLast Go.Proofs.YtgkjdpdmmlalcaaW.PrintMore
set_option linter.unusedVariables false
set_option linter.unusedSimpArgs false
attribute [local go_sem] Oper.semAt_some
def firstS (p : List SP) (a n need : Int) : Int × Int := match (spanL a n).find? (fun x => decide (kindS p need x ≠ 0)) with
  | some x => (kindS p need x, x)
  | none => (0, 0)
def okSp (p : List SP) (a n : Int) : Bool := risesB pgK p && decide (p.length ≤ 1000000 ∧ 0 ≤ a ∧ a < 4294967296 ∧ 0 ≤ n ∧ n < 4294967296)
theorem okSp_iff {p : List SP} {a n : Int} : okSp p a n = true ↔ Rises pgK p ∧ p.length ≤ 1000000 ∧ 0 ≤ a ∧ a < 4294967296 ∧ 0 ≤ n ∧ n < 4294967296 := by
  unfold okSp
  rw [Bool.and_eq_true, decide_eq_true_iff, risesB_iff]
theorem firstS_none {p : List SP} {a n need : Int} (h : ∀ x ∈ spanL a n, kindS p need x = 0) : firstS p a n need = (0, 0) := by
  unfold firstS
  rw [List.find?_eq_none.2 (fun x hx => by rw [h x hx]; decide)]
theorem firstS_some {p : List SP} {a n need x : Int} {pre : List Int} (hp : pre ++ [x] <+: spanL a n) (h : ∀ y ∈ pre, kindS p need y = 0) (hx : kindS p need x ≠ 0) : firstS p a n need = (kindS p need x, x) := by
  obtain ⟨l, hl⟩ := hp
  unfold firstS
  rw [← hl, List.append_assoc, List.find?_append, List.find?_eq_none.2 (fun y hy => by rw [h y hy]; decide)]
  simp [hx]
-- HAND fn=ferry/gmem.first ; rounds=0 ; making=1 ; laid=0
def gmem_first.f (l0 : List SM) (l1 : List SC) (b : Int) (p : List SP) (a n need : Int) : Option (Int × Int) := if okSp p a n = true then some (firstS p a n need) else none
structure FirI (w : World) (B1 B2 B3 B4 : Nat) (gv : Array Value) (a n need : Int) (p : List SP) (pre : List Int) (W : World) : Prop where
  z : ∀ x ∈ pre, kindS p need (x % 18446744073709551616) = 0
  s : SInv w B1 B2 B3 B4 gv a n need W
  f : W.heap[w.heap.size + 1]? = some (.cells #[.int .i64 0, .int .u64 0] 34 (0, 0))
def FirX (w : World) (p : List SP) (need : Int) (c : Code) (pre : List Int) (W : World) : Prop :=
  c = .exit 0 ∧ ∃ pre' x, pre = pre' ++ [x] ∧ (∀ y ∈ pre', kindS p need (y % 18446744073709551616) = 0) ∧ kindS p need (x % 18446744073709551616) ≠ 0 ∧ Below w.heap.size w W ∧
    W.heap[w.heap.size + 1]? = some (.cells #[.int .i64 (kindS p need (x % 18446744073709551616)), .int .u64 (x % 18446744073709551616)] 34 (0, 0))
theorem blk_nw2 (w : World) (o o' o'' : Obj) : (((w.alloc o).alloc o').alloc o'').heap[w.heap.size + 1 + 1]? = some o'' := by
  have h := blk_new1 (w.alloc o) o' o''
  rwa [World.size_alloc] at h
theorem blk_nw3 (w : World) (o o' o'' o3 : Obj) : ((((w.alloc o).alloc o').alloc o'').alloc o3).heap[w.heap.size + 1 + 1 + 1]? = some o3 := by
  have h := blk_nw2 (w.alloc o) o' o'' o3
  rwa [World.size_alloc] at h
theorem noGoto_ret {Q : Exit → Act → World → Prop} {a : Act} {w : World} : Exit.noGoto Q .ret a w = Q .ret a w := rfl
theorem below_4 (w : World) (o o' o'' o3 : Obj) : Below w.heap.size w ((((w.alloc o).alloc o').alloc o'').alloc o3) :=
  ((((Below.refl _ w).alloc (Nat.le_refl _) o).alloc (by simp) o').alloc (by simp; omega) o'').alloc (by simp; omega) o3
set_option maxHeartbeats 8000000 in
set_option maxRecDepth 100000 in
theorem gmem_first.calls (A0_0 : Option Addr) (c0_0 : Nat) (l0_0 : List SM) (A0_1 : Option Addr) (c0_1 : Nat) (l0_1 : List SC) (a0_2 : Int) (A0_3 : Option Addr) (c0_3 : Nat) (l0_3 : List SP) (a1 a2 a3 : Int) (r1 r2 : Int) (w : World) (hr0_0 : Kd.C kM w A0_0 l0_0.length l0_0) (hc0_0 : l0_0.length ≤ c0_0) (hr0_1 : Kd.C kC w A0_1 l0_1.length l0_1) (hc0_1 : l0_1.length ≤ c0_1) (hr0_3 : Kd.C kP w A0_3 l0_3.length l0_3) (hc0_3 : l0_3.length ≤ c0_3) (h : gmem_first.f l0_0 l0_1 a0_2 l0_3 a1 a2 a3 = some (r1, r2)) :
    Calls Try.prog 41 #[.agg #[.slice A0_0 l0_0.length c0_0, .slice A0_1 l0_1.length c0_1, .int .u64 a0_2, .slice A0_3 l0_3.length c0_3], .int .u32 a1, .int .i64 a2, .int .i64 a3] w fun e w' => e = .returned (.agg #[.int .i64 r1, .int .u64 r2]) ∧ Below w.heap.size w w' := by
  unfold gmem_first.f at h
  split at h
  case isFalse => cases h
  rename_i hok
  obtain ⟨hs, hp, ha, ha2, hn, hn2⟩ := okSp_iff.1 hok
  have HR := Lib.hid (Option.some.inj h)
  have GR := Lib.hid (show GRead w A0_0 c0_0 l0_0 A0_1 c0_1 l0_1 A0_3 c0_3 l0_3 from ⟨hr0_0, hc0_0, hr0_1, hc0_1, hr0_3, hc0_3, hp, hs⟩)
  have NA := Lib.hid (And.intro ha ha2)
  have NN := Lib.hid (And.intro hn hn2)
  clear h hok hs hp ha ha2 hn hn2 hr0_0 hc0_0 hr0_1 hc0_1 hr0_3 hc0_3
  have hu2 := Try.underlying29
  have hu3 := Try.underlying25
  have hu4 := Try.underlying34
  refine (callsIn_wide (n := 6)).1 ?_
  refine callsIn_of_wp_marks Try.func41 rfl trivial ?_ rfl
  simp only [Try.ntmps41, List.size_toArray, List.length_cons, List.length_nil, Nat.reduceAdd, Nat.reduceSub, Array.replicate_succ, Array.replicate_zero, List.push_toArray, List.append_toArray, List.nil_append, List.cons_append]
  have K4 := Lib.hid (blk_alloc (blk_new w (.cells #[.slice A0_0 l0_0.length c0_0, .slice A0_1 l0_1.length c0_1, .int .u64 a0_2, .slice A0_3 l0_3.length c0_3] 29)) (.cells #[.int .i64 0, .int .u64 0] 34))
  have q4_0 := (sblk_cell K4.out 0).trans rfl
  have q4_1 := (sblk_cell K4.out 1).trans rfl
  have q4_2 := (sblk_cell K4.out 2).trans rfl
  have q4_3 := (sblk_cell K4.out 3).trans rfl
  gi_wp2_with (fail)
  refine wpIn_wide.2 (wp_scope_straight ((wpIn_wide (n := 6)).1 ?_))
  refine wpIn_seq (wpIn_label ?_)
  show Code.wpIn _ _ _ _ _ _ _
  have B0 := Lib.hid (blk_new1 w (.cells #[.slice A0_0 l0_0.length c0_0, .slice A0_1 l0_1.length c0_1, .int .u64 a0_2, .slice A0_3 l0_3.length c0_3] 29) (.cells #[.int .i64 0, .int .u64 0] 34))
  have D0 := Lib.hid (((Below.refl _ w).alloc (Nat.le_refl _) (.cells #[.slice A0_0 l0_0.length c0_0, .slice A0_1 l0_1.length c0_1, .int .u64 a0_2, .slice A0_3 l0_3.length c0_3] 29)).alloc (by simp) (.cells #[.int .i64 0, .int .u64 0] 34))
  have Z0 := Lib.hid (show ((w.alloc (.cells #[.slice A0_0 l0_0.length c0_0, .slice A0_1 l0_1.length c0_1, .int .u64 a0_2, .slice A0_3 l0_3.length c0_3] 29)).alloc (.cells #[.int .i64 0, .int .u64 0] 34)).heap.size = w.heap.size + 2 by simp)
  generalize (w.alloc (.cells #[.slice A0_0 l0_0.length c0_0, .slice A0_1 l0_1.length c0_1, .int .u64 a0_2, .slice A0_3 l0_3.length c0_3] 29)).alloc (.cells #[.int .i64 0, .int .u64 0] 34) = y1 at B0 D0 Z0 K4 q4_0 q4_1 q4_2 q4_3 ⊢
  gi_wp2_with (refine ⟨trivial, ?_⟩; gi_at_call 57; refine (callsIn_wide.2 (gSpan.calls #[.slice A0_0 l0_0.length c0_0, .slice A0_1 l0_1.length c0_1, .int .u64 a0_2, .slice A0_3 l0_3.length c0_3] ⟨_, _, _, _, rfl, trivial⟩ a1 a2 a3 _)).mono ?_; rintro e w' ⟨rfl, rfl⟩)
  have S0 := Lib.hid (show SInv w (y1.heap.size + 1) (y1.heap.size + 1 + 1) y1.heap.size (y1.heap.size + 1 + 1 + 1) #[.slice A0_0 l0_0.length c0_0, .slice A0_1 l0_1.length c0_1, .int .u64 a0_2, .slice A0_3 l0_3.length c0_3] a1 a2 a3 ((((y1.alloc (.cells #[.slice A0_0 l0_0.length c0_0, .slice A0_1 l0_1.length c0_1, .int .u64 a0_2, .slice A0_3 l0_3.length c0_3] 29)).alloc (.cells #[.int .u32 a1] 30)).alloc (.cells #[.int .i64 a2] 3)).alloc (.cells #[.int .i64 a3] 3)) from ⟨D0.out.trans ((below_4 y1 _ _ _ _).mono D0.out.size), blk_alloc (blk_alloc (blk_new1 y1 _ _) _) _, blk_alloc (blk_nw2 y1 _ _ _) _, blk_alloc (blk_alloc (blk_alloc (blk_new y1 _) _) _) _, blk_nw3 y1 _ _ _ _⟩)
  have F0 := Lib.hid (blk_alloc (blk_alloc (blk_alloc (blk_alloc B0.out (.cells #[.slice A0_0 l0_0.length c0_0, .slice A0_1 l0_1.length c0_1, .int .u64 a0_2, .slice A0_3 l0_3.length c0_3] 29)) (.cells #[.int .u32 a1] 30)) (.cells #[.int .i64 a2] 3)) (.cells #[.int .i64 a3] 3))
  have S3 := Lib.hid (show w.heap.size ≤ ((((y1.alloc (.cells #[.slice A0_0 l0_0.length c0_0, .slice A0_1 l0_1.length c0_1, .int .u64 a0_2, .slice A0_3 l0_3.length c0_3] 29)).alloc (.cells #[.int .u32 a1] 30)).alloc (.cells #[.int .i64 a2] 3)).alloc (.cells #[.int .i64 a3] 3)).heap.size from S0.out.bel.size)
  have Z1 := Lib.hid (show w.heap.size + 1 < ((((y1.alloc (.cells #[.slice A0_0 l0_0.length c0_0, .slice A0_1 l0_1.length c0_1, .int .u64 a0_2, .slice A0_3 l0_3.length c0_3] 29)).alloc (.cells #[.int .u32 a1] 30)).alloc (.cells #[.int .i64 a2] 3)).alloc (.cells #[.int .i64 a3] 3)).heap.size from sblk_lt F0.out)
  clear K4 B0 D0 q4_0 q4_1 q4_2 q4_3
  generalize ((((y1.alloc (.cells #[.slice A0_0 l0_0.length c0_0, .slice A0_1 l0_1.length c0_1, .int .u64 a0_2, .slice A0_3 l0_3.length c0_3] 29)).alloc (.cells #[.int .u32 a1] 30)).alloc (.cells #[.int .i64 a2] 3)).alloc (.cells #[.int .i64 a3] 3)) = y2 at S0 F0 S3 Z1 ⊢
  generalize y1.heap.size = B at S0 Z0 ⊢
  clear Z0 y1
  refine' wpIn_rangeFunc_ownG rfl (by omega) (gf := 85) (lb := #[.pointer (some ⟨B + 1, 0, none⟩), .pointer (some ⟨B + 1 + 1, 0, none⟩), .pointer (some ⟨B, 0, none⟩), .pointer (some ⟨B + 1 + 1 + 1, 0, none⟩)]) rfl trivial (enters_of Try.func85 (by kernel_rfl) rfl)
    (gSpan_stops (6 - 1) w (B + 1) (B + 1 + 1) B (B + 1 + 1 + 1) A0_0 c0_0 l0_0 A0_1 c0_1 l0_1 a0_2 A0_3 c0_3 l0_3 a1 a2 a3 GR.out NA.out.1 NA.out.2 NN.out.1 NN.out.2 _ S0.out) (fun h k x => k (h x)) (sinv_b S3.out) (Below.refl _ _) (fun _ => rfl)
    (FirI w (B + 1) (B + 1 + 1) B (B + 1 + 1 + 1) #[.slice A0_0 l0_0.length c0_0, .slice A0_1 l0_1.length c0_1, .int .u64 a0_2, .slice A0_3 l0_3.length c0_3] a1 a2 a3 l0_3) (FirX w l0_3 a3)
    (fun pre A A' row hs hg hr => ⟨hs.z, hs.s.own hg (fun r e => ⟨Nat.le_trans S3.out (hr r e).1, (hr r e).2⟩), blk_own hs.f hg (fun r e => (hr r e).2)⟩)
    (fun c pre A A' row hs hg hr => ⟨hs.1, by
      obtain ⟨pre', x, e, h1, h2, h3, h4⟩ := hs.2
      exact ⟨pre', x, e, h1, h2, h3.grown hg h3.size (fun k e => Nat.le_trans S3.out (hr k e).1), blk_own h4 hg (fun r e => (hr r e).2)⟩⟩)
    ⟨(fun x hx => by cases hx), S0.out, F0.out⟩
    (fun x => { tmps := #[.agg #[.slice A0_0 l0_0.length c0_0, .slice A0_1 l0_1.length c0_1, .int .u64 a0_2, .slice A0_3 l0_3.length c0_3], .int .u32 a1, .int .i64 a2, .int .i64 a3, .pointer (some ⟨w.heap.size, 0, none⟩), undef, undef, undef, .pointer (some ⟨w.heap.size + 1, 0, none⟩), .int .u64 (x % 18446744073709551616), .int .i64 (kindS l0_3 a3 (x % 18446744073709551616)), .agg #[.slice A0_0 l0_0.length c0_0, .slice A0_1 l0_1.length c0_1, .int .u64 a0_2, .slice A0_3 l0_3.length c0_3], .int .u32 a1, .int .i64 a2, .int .i64 a3, .func (.func 85) #[] #[.pointer (some ⟨B + 1, 0, none⟩), .pointer (some ⟨B + 1 + 1, 0, none⟩), .pointer (some ⟨B, 0, none⟩), .pointer (some ⟨B + 1 + 1 + 1, 0, none⟩)], .int .u64 (x % 18446744073709551616), .int .i64 (kindS l0_3 a3 (x % 18446744073709551616)), undef, undef, undef, undef, undef, undef], defers := [] }) ?assign ?body ?done ?stop
  case assign =>
    intro l x W K hK
    gi_wp2
    exact hK
  case body =>
    rintro l pre x W hI hlen
    have II := Lib.hid hI
    clear hI hlen
    have c0 := (sblk_cell II.out.f 0).trans rfl
    have c1 := (sblk_cell II.out.f 1).trans rfl
    have f0 := sblk_free II.out.f 0
    have f1 := sblk_free II.out.f 1
    obtain ⟨q, hq⟩ : ∃ q, kindS l0_3 a3 (x % 18446744073709551616) = q := ⟨_, rfl⟩
    rw [hq]
    have HQ := Lib.hid hq
    clear hq
    by_cases h0 : q = 0
    · subst h0
      gi_wp2
      exact ⟨KeepsFrom.refl _ _, fun h => h, ⟨fun y hy => by
        rcases List.mem_append.1 hy with h | h
        · exact II.out.z y h
        · rw [List.mem_singleton.1 h]; exact HQ.out, II.out.s, II.out.f⟩⟩
    have hb : (q != 0) = true := by simpa using h0
    have HN := Lib.hid h0
    clear h0
    gi_wp2
    refine ⟨?_, rfl, pre, x, rfl, II.out.z, by rw [HQ.out]; exact HN.out, ?_, ?_⟩
    · exact ((KeepsOthers.setCell _ _ _).trans (KeepsOthers.setCell _ _ _)).from _
    · exact (II.out.s.bel.setCell (p := ⟨w.heap.size + 1, 0, none⟩) (Nat.le_succ _) _).setCell (p := ⟨w.heap.size + 1, 1, none⟩) (Nat.le_succ _) _
    · rw [HQ.out]
      exact blk_put (blk_put II.out.f 0 _ rfl) 1 _ rfl
  case done =>
    rintro D ys W hD rfl hI hK
    have HF := Lib.hid hI.f
    have HB := Lib.hid hI.s.bel
    have hz := hI.z
    obtain rfl : (0 : Int) = r1 := by
      have h := HR.out
      rw [firstS_none (fun x hx => by have h1 := hz x hx; rwa [spanL_mod NA.out.1 (by have := NA.out; have := NN.out; omega) x hx] at h1)] at h
      exact (Prod.mk.inj h).1
    obtain rfl : (0 : Int) = r2 := by
      have h := HR.out
      rw [firstS_none (fun x hx => by have h1 := hz x hx; rwa [spanL_mod NA.out.1 (by have := NA.out; have := NN.out; omega) x hx] at h1)] at h
      exact (Prod.mk.inj h).2
    clear hI hz
    have DD := Lib.hid (Nat.le_trans S3.out hD)
    have d1 : D ≠ w.heap.size + 1 := by have := Z1.out; omega
    have hbD := fun o' => belowK_b (n₀ := w.heap.size) (w := w) (Nat.le_refl _) W D _ o' (Nat.le_trans S3.out hD) hK rfl rfl
    have HD := Lib.hid hbD
    have KD := Lib.hid hK
    have ND := Lib.hid d1
    clear hbD hD hK d1
    have c0 := (sblk_cell HF.out 0).trans rfl
    have c1 := (sblk_cell HF.out 1).trans rfl
    have f0 := sblk_free HF.out 0
    have f1 := sblk_free HF.out 1
    gi_wp2
    rw [noGoto_ret]
    dsimp +zetaDelta only
    have K2 := Lib.hid (show ((W.setCell ⟨w.heap.size + 1, 0, none⟩ (.int .i64 0)).setCell ⟨w.heap.size + 1, 1, none⟩ (.int .u64 0)).heap[D]? = some (.deferred (some [])) from (set_far ND.out).trans ((set_far ND.out).trans KD.out))
    have H2 := Lib.hid (show ((W.setCell ⟨w.heap.size + 1, 0, none⟩ (.int .i64 0)).setCell ⟨w.heap.size + 1, 1, none⟩ (.int .u64 0)).heap[w.heap.size + 1]? = some (.cells #[.int .i64 0, .int .u64 0] 34 (0, 0)) from blk_put (blk_put HF.out 0 _ rfl) 1 _ rfl)
    have B2 := Lib.hid (show Below w.heap.size w ((W.setCell ⟨w.heap.size + 1, 0, none⟩ (.int .i64 0)).setCell ⟨w.heap.size + 1, 1, none⟩ (.int .u64 0)) from (HB.out.setCell (p := ⟨w.heap.size + 1, 0, none⟩) (Nat.le_succ _) _).setCell (p := ⟨w.heap.size + 1, 1, none⟩) (Nat.le_succ _) _)
    clear c0 c1 f0 f1
    generalize ((W.setCell ⟨w.heap.size + 1, 0, none⟩ (.int .i64 0)).setCell ⟨w.heap.size + 1, 1, none⟩ (.int .u64 0)) = W2 at K2 H2 B2 ⊢
    refine ⟨by simp, .inl ⟨_, _, rfl, run_takeDeferred K2.out, ?_⟩⟩
    have u := (World.putObj_heap_other (o := .deferred none) (w := W2) (show w.heap.size + 1 ≠ D from Ne.symm ND.out)).trans H2.out
    have e0 := (sblk_cell u 0).trans rfl
    have e1 := (sblk_cell u 1).trans rfl
    exact ⟨.agg #[.int .i64 0, .int .u64 0], by simp [results, Try.results41, go_sem, e0, e1], rfl, B2.out.trans (belowK_b (n₀ := w.heap.size) (w := w) (Nat.le_refl _) W2 D _ _ DD.out K2.out rfl rfl)⟩
  case stop =>
    rintro D c pre W hD hpre ⟨rfl, pre', x, rfl, h1, h2, h3, h4⟩ hK
    have HF := Lib.hid h4
    have HB := Lib.hid h3
    clear h3 h4
    have hm := spanL_mod (a := a1) (n := a2) NA.out.1 (by have := NA.out; have := NN.out; omega)
    have hx := hm x (hpre.subset (by simp))
    have hfs := firstS_some (need := a3) (p := l0_3) hpre (fun y hy => by have h := h1 y hy; rwa [hm y (hpre.subset (List.mem_append_left _ hy))] at h) (by rwa [hx] at h2)
    rw [hx] at HF
    rw [HR.out] at hfs
    obtain ⟨e1, e2⟩ := Prod.mk.inj hfs
    rw [← e1, ← e2] at HF
    clear hfs e1 e2 hm hx h1 h2 hpre
    have DD := Lib.hid (Nat.le_trans S3.out hD)
    have d1 : D ≠ w.heap.size + 1 := by have := Z1.out; omega
    have hbD := fun o' => belowK_b (n₀ := w.heap.size) (w := w) (Nat.le_refl _) W D _ o' (Nat.le_trans S3.out hD) hK rfl rfl
    have HD := Lib.hid hbD
    have KD := Lib.hid hK
    have ND := Lib.hid d1
    clear hbD hD hK d1
    have c0 := (sblk_cell HF.out 0).trans rfl
    have c1 := (sblk_cell HF.out 1).trans rfl
    have f0 := sblk_free HF.out 0
    have f1 := sblk_free HF.out 1
    gi_wp2
    rw [noGoto_ret]
    dsimp +zetaDelta only
    have K2 := Lib.hid (show ((W.setCell ⟨w.heap.size + 1, 0, none⟩ (.int .i64 r1)).setCell ⟨w.heap.size + 1, 1, none⟩ (.int .u64 r2)).heap[D]? = some (.deferred (some [])) from (set_far ND.out).trans ((set_far ND.out).trans KD.out))
    have H2 := Lib.hid (show ((W.setCell ⟨w.heap.size + 1, 0, none⟩ (.int .i64 r1)).setCell ⟨w.heap.size + 1, 1, none⟩ (.int .u64 r2)).heap[w.heap.size + 1]? = some (.cells #[.int .i64 r1, .int .u64 r2] 34 (0, 0)) from blk_put (blk_put HF.out 0 _ rfl) 1 _ rfl)
    have B2 := Lib.hid (show Below w.heap.size w ((W.setCell ⟨w.heap.size + 1, 0, none⟩ (.int .i64 r1)).setCell ⟨w.heap.size + 1, 1, none⟩ (.int .u64 r2)) from (HB.out.setCell (p := ⟨w.heap.size + 1, 0, none⟩) (Nat.le_succ _) _).setCell (p := ⟨w.heap.size + 1, 1, none⟩) (Nat.le_succ _) _)
    clear c0 c1 f0 f1
    generalize ((W.setCell ⟨w.heap.size + 1, 0, none⟩ (.int .i64 r1)).setCell ⟨w.heap.size + 1, 1, none⟩ (.int .u64 r2)) = W2 at K2 H2 B2 ⊢
    refine ⟨by simp, .inl ⟨_, _, rfl, run_takeDeferred K2.out, ?_⟩⟩
    have u := (World.putObj_heap_other (o := .deferred none) (w := W2) (show w.heap.size + 1 ≠ D from Ne.symm ND.out)).trans H2.out
    have e0 := (sblk_cell u 0).trans rfl
    have e1 := (sblk_cell u 1).trans rfl
    exact ⟨.agg #[.int .i64 r1, .int .u64 r2], by simp [results, Try.results41, go_sem, e0, e1], rfl, B2.out.trans (belowK_b (n₀ := w.heap.size) (w := w) (Nat.le_refl _) W2 D _ _ DD.out K2.out rfl rfl)⟩
end Go.Proofs.Ytgkjdpdmmlalcaa.F
end
section
namespace Go.Proofs.Ytgkjdpdmmlalcaa.F
open Go.RowKit Go.Shelf Go.Proofs.YtgkjdpdmmlalcaaW.PrintWords Go.Proofs.YtgkjdpdmmlalcaaW.PrintLast Go.Proofs.YtgkjdpdmmlalcaaW.PrintMore
attribute [local go_sem] max2_int min2_int max_two min_two
set_option linter.unusedVariables false
set_option linter.unusedSimpArgs false
def readGo (l0 : List SM) (l1 : List SC) : Nat → Int → Nat → List UInt8 → Option (List UInt8)
  | 0, _, _, _ => none
  | k + 1, x, n, acc => if 0 < n then (host_Load.f 60 l0 l1 x ((min n 8 : Nat) : Int)).bind fun t => readGo l0 l1 k (IntKind.u64.wrap (x + ((min n 8 : Nat) : Int))) (n - min n 8) (acc ++ leBytes t.1 (min n 8)) else some acc
-- HAND fn=ferry/gmem.read ; rounds=0 ; making=1 ; laid=0
def gmem_read.f (l0 : List SM) (l1 : List SC) (b : Int) (p : List SP) (a n : Int) : Option ByteArray := if 0 ≤ n ∧ n ≤ 70000 then (readGo l0 l1 (n.toNat + 1) (IntKind.u64.wrap (b + IntKind.u64.wrap a)) n.toNat []).bind (fun l => some ⟨l.toArray⟩) else none
set_option maxHeartbeats 8000000 in
set_option maxRecDepth 100000 in
theorem gmem_read.calls (A0_0 : Option Addr) (c0_0 : Nat) (l0_0 : List SM) (A0_1 : Option Addr) (c0_1 : Nat) (l0_1 : List SC) (a0_2 : Int) (A0_3 : Option Addr) (c0_3 : Nat) (l0_3 : List SP) (a1 a2 : Int) (r : ByteArray) (w : World) (hr0_0 : Kd.C kM w A0_0 l0_0.length l0_0) (hc0_0 : l0_0.length ≤ c0_0) (hr0_1 : Kd.C kC w A0_1 l0_1.length l0_1) (hc0_1 : l0_1.length ≤ c0_1) (hr0_3 : Kd.C kP w A0_3 l0_3.length l0_3) (hc0_3 : l0_3.length ≤ c0_3) (h : gmem_read.f l0_0 l0_1 a0_2 l0_3 a1 a2 = some r) :
    Calls Try.prog 42 #[.agg #[.slice A0_0 l0_0.length c0_0, .slice A0_1 l0_1.length c0_1, .int .u64 a0_2, .slice A0_3 l0_3.length c0_3], .int .u32 a1, .int .i64 a2] w fun e w' => e = .returned (.string r) ∧ Below w.heap.size w w' := by
  unfold gmem_read.f at h
  split at h
  case isFalse => cases h
  rename_i hn
  obtain ⟨rs, h1, h2⟩ := Option.bind_eq_some_iff.1 h
  obtain rfl := Option.some.inj h2
  obtain ⟨n, rfl⟩ := Int.eq_ofNat_of_zero_le hn.1
  rw [Int.toNat_natCast] at h1
  have HR := Lib.hid h1
  have HN := Lib.hid (show n ≤ 70000 by omega)
  have LD := Lib.hid (fun W (hB : Below w.heap.size w W) (x m : Int) t (ht : host_Load.f 60 l0_0 l0_1 x m = some t) => host_Load.calls 60 A0_0 c0_0 l0_0 A0_1 c0_1 l0_1 x m t.1 t.2.1 t.2.2 W (Kd.C_below hr0_0 hB) hc0_0 (Kd.C_below hr0_1 hB) hc0_1 ht)
  clear h h1 h2 hn hr0_0 hr0_1 hr0_3 hc0_0 hc0_1 hc0_3
  have hu2 := Try.underlying29
  have hu3 := Try.underlying25
  have hu4 := Try.underlying34
  have K4 := Lib.hid (blk_alloc (blk_new w (.cells #[.slice A0_0 l0_0.length c0_0, .slice A0_1 l0_1.length c0_1, .int .u64 a0_2, .slice A0_3 l0_3.length c0_3] 29)) (.cells #[.pointer none, .slice none 0 0] 95))
  have q4_0 := (sblk_cell K4.out 0).trans rfl
  have q4_1 := (sblk_cell K4.out 1).trans rfl
  have q4_2 := (sblk_cell K4.out 2).trans rfl
  have q4_3 := (sblk_cell K4.out 3).trans rfl
  go_enter Try.func42, Try.ntmps42
  go_wp2_with (go_at_call 75; refine (gPlace_any.calls A0_0 _ c0_0 A0_1 _ c0_1 a0_2 A0_3 _ c0_3 a1 _).mono ?_; rintro e W1 ⟨rfl, hb1⟩)
  have HI0 : Hid (Lib.IsBuilderF 95 5 (w.heap.size + 1) (w.heap.size + 1) (Lib.byteCells []) W1) := by
    have hF := Lib.fresh_isBuilder 95 5 (w.alloc (.cells #[.slice A0_0 l0_0.length c0_0, .slice A0_1 l0_1.length c0_1, .int .u64 a0_2, .slice A0_3 l0_3.length c0_3] 29))
    rw [World.size_alloc] at hF
    exact Lib.hid (Lib.IsBuilderF.of (isBuilder_below hF hb1))
  have B1 := Lib.hid (((Below.refl _ w).alloc (Nat.le_refl _) (.cells #[.slice A0_0 l0_0.length c0_0, .slice A0_1 l0_1.length c0_1, .int .u64 a0_2, .slice A0_3 l0_3.length c0_3] 29)).alloc (by simp) (.cells #[.pointer none, .slice none 0 0] 95) |>.trans (hb1.mono (by simp; omega)))
  have G1 := Lib.hid (blk_below K4.out hb1)
  clear hb1 K4 q4_0 q4_1 q4_2 q4_3
  go_loopw [2, 8] (fun v x wr => ∃ (m : Nat) (X : Int) (f : Nat) (acc : List UInt8), v = .int .i64 m ∧ x = .int .u64 X ∧ acc.length + m = n ∧ readGo l0_0 l0_1 f X m acc = some rs ∧ Lib.IsBuilderF 95 5 (w.heap.size + 1) (w.heap.size + 1) (Lib.byteCells acc) wr ∧ Below w.heap.size w wr ∧ wr.heap[w.heap.size]? = some (.cells #[.slice A0_0 l0_0.length c0_0, .slice A0_1 l0_1.length c0_1, .int .u64 a0_2, .slice A0_3 l0_3.length c0_3] 29 (0, 0))) (fun v _ _ => (intOf v).toNat)
  case atStart => exact ⟨n, _, _, [], rfl, rfl, by simp, HR.out, HI0.out, B1.out, G1.out⟩
  case round =>
    clear HI0 B1 G1 HR
    obtain ⟨m, X, f, acc, rfl, rfl, hm, hR, hI, hB, hG⟩ := hrel
    have HM := Lib.hid hm
    have HI := Lib.hid hI
    have HB := Lib.hid hB
    have HG := Lib.hid hG
    clear hI hB hG hm
    cases f with
    | zero => exact absurd hR (by simp [readGo])
    | succ f =>
      unfold readGo at hR
      by_cases h0 : 0 < m
      · rw [if_pos h0] at hR
        obtain ⟨t, ht, hR2⟩ := Option.bind_eq_some_iff.1 hR
        have HT := Lib.hid ht
        have HR := Lib.hid hR2
        have hd := decide_eq_true (show (0 : Int) < (m : Int) by omega)
        have H0 := Lib.hid h0
        clear hR hR2 ht h0
        have q4_0 := (sblk_cell HG.out 0).trans rfl
        have q4_1 := (sblk_cell HG.out 1).trans rfl
        obtain ⟨k, hk⟩ : ∃ k, min m 8 = k := ⟨_, rfl⟩
        have hk1 : (if (8 : Int) < (m : Int) then (8 : Int) else (m : Int)) = (k : Int) := by split <;> omega
        have HK := Lib.hid hk
        rw [hk] at HT HR
        clear hk
        go_wp2_with (fail)
        refine (LD.out wr HB.out X k t HT.out).mono ?_
        rintro e W2 ⟨rfl, hb2⟩
        have HI2 := Lib.hid (builder_move HI.out (fun k c t f h => (hb2.block k (sblk_lt h)).trans h))
        have HB2 := Lib.hid (HB.out.trans (hb2.mono HB.out.size))
        have HG2 := Lib.hid (blk_below HG.out hb2)
        clear HI HB HG hb2 q4_0 q4_1
        go_wp2_with (fail)
        have hk8 : k ≤ 8 ∧ k ≤ m := by have := HK.out; omega
        have hP : swap_PutLe.f t.1 (k : Int) = some ⟨(leBytes t.1 k).toArray⟩ := by
          unfold swap_PutLe.f
          rw [if_neg (by omega), if_neg (by omega), Int.toNat_natCast]
        refine (swap_PutLe.calls t.1 (k : Int) _ _ hP).mono ?_
        rintro e W4 ⟨rfl, hb4⟩
        have HI4 := Lib.hid (builder_move (HI2.out.alloc (.cells #[.int .i64 t.2.1, .int .u64 t.2.2] 34)) (fun k c t f h => (hb4.block k (sblk_lt h)).trans h))
        have HB4 := Lib.hid ((HB2.out.alloc HB2.out.size (.cells #[.int .i64 t.2.1, .int .u64 t.2.2] 34)).trans (hb4.mono (by rw [World.size_alloc]; have := HB2.out.size; omega)))
        have HG4 := Lib.hid (blk_below (blk_alloc HG2.out (.cells #[.int .i64 t.2.1, .int .u64 t.2.2] 34)) hb4)
        have HK8 := Lib.hid hk8
        clear HI2 HB2 HG2 hb4 hP hk8
        go_wp2_with (fail)
        have hg5 := sblk_lt HG4.out
        have hsz : (leBytes t.1 k).toArray.size = k := by rw [List.size_toArray, leBytes_length]
        refine (Try.Builder_WriteString_k (w.heap.size + 1) (w.heap.size + 1) _ _ _ HI4.out (by
          rw [Lib.byteCells_length]
          have h1 := HM.out
          have h2 := HN.out
          have h3 := HK8.out
          have h4 : (⟨(leBytes t.1 k).toArray⟩ : ByteArray).size = k := hsz
          rw [h4]
          omega) (by omega)).mono ?_
        rintro e W5 ⟨rfl, hb5, hbl5, hok5⟩
        have HI5 := Lib.hid (show Lib.IsBuilderF 95 5 (w.heap.size + 1) (w.heap.size + 1) (Lib.byteCells (acc ++ leBytes t.1 k)) W5 from by
          rw [Lib.byteCells_append]
          exact .inr hb5)
        have HB5 := Lib.hid (HB4.out.trans (hbl5.mono (Nat.le_succ _)))
        have HG5 := Lib.hid ((hbl5.block w.heap.size (Nat.lt_succ_self _)).trans HG4.out)
        clear hb5 hbl5 hok5 HI4 HB4 HG4 hg5 hsz
        go_wp2
        go_roundw
        case rel =>
          have h1 := HK8.out
          have hw : wrap64 ((m : Int) - (k : Int)) = ((m - k : Nat) : Int) := by
            have h2 := HN.out
            have h3 := HM.out
            unfold wrap64
            omega
          exact ⟨m - k, _, f, _, by rw [hw], rfl, by have := HM.out; rw [List.length_append, leBytes_length]; omega, HR.out, HI5.out, HB5.out, HG5.out⟩
        case measure =>
          have h1 := HK8.out
          have h2 := HK.out
          have h3 := H0.out
          have hw : wrap64 ((m : Int) - (k : Int)) = ((m - k : Nat) : Int) := by
            have h2 := HN.out
            have h3 := HM.out
            unfold wrap64
            omega
          rw [hw]
          simp [intOf]
          omega
      rw [if_neg h0] at hR
      obtain rfl := Option.some.inj hR
      obtain rfl : m = 0 := by omega
      have hg5 := sblk_lt HG.out
      clear h0 hR
      go_wp2_with (go_at_call 58; refine (Try.Builder_String_any_k (w.heap.size + 1) (w.heap.size + 1) _ _ HI.out (by omega)).mono ?_; rintro e W1 ⟨rfl, _, hbl, _⟩)
      go_ret
      exact ⟨rfl, HB.out.trans (hbl.mono (Nat.le_succ _))⟩
end Go.Proofs.Ytgkjdpdmmlalcaa.F
end
section
namespace Go.Proofs.Ytgkjdpdmmlalcaa.F
open Go.RowKit Go.Shelf Go.Proofs.YtgkjdpdmmlalcaaW.PrintWords Go.Proofs.YtgkjdpdmmlalcaaW.PrintLast Go.Proofs.YtgkjdpdmmlalcaaW.PrintMore
attribute [local go_sem] Oper.semAt_some max2_int min2_int max_two min_two
set_option linter.unusedVariables false
set_option linter.unusedSimpArgs false
structure TxtR (w : World) (r : ByteArray × Int × Int × Int) (W : World) : Prop where
  bel : Below w.heap.size w W
  c6 : W.heap[w.heap.size + 1]? = some (.cells #[.string r.1] 9 (0, 0))
  c7 : W.heap[w.heap.size + 1 + 1]? = some (.cells #[.int .i64 r.2.1, .int .u64 r.2.2.1] 34 (0, 0))
  c8 : W.heap[w.heap.size + 1 + 1 + 1]? = some (.cells #[.int .i64 r.2.2.2] 53 (0, 0))
theorem TxtR.own {w : World} {r : ByteArray × Int × Int × Int} {W W' : World} {row : Option Nat} (h : TxtR w r W) (hg : W.grownBy W' row) (hr : ∀ r, row = some r → w.heap.size ≤ r ∧ ∃ o : Obj, W.heap[r]? = some o ∧ o.isCells = false) : TxtR w r W' :=
  ⟨h.bel.grown hg h.bel.size (fun k e => (hr k e).1), blk_own h.c6 hg (fun r e => (hr r e).2), blk_own h.c7 hg (fun r e => (hr r e).2), blk_own h.c8 hg (fun r e => (hr r e).2)⟩
theorem TxtR.put {w W : World} {gs : ByteArray} {k0 x0 e0 : Int} (hB : Below w.heap.size w W) (h6 : W.heap[w.heap.size + 1]? = some (.cells #[.string gs] 9 (0, 0))) (h7 : W.heap[w.heap.size + 1 + 1]? = some (.cells #[.int .i64 k0, .int .u64 x0] 34 (0, 0))) (h8 : W.heap[w.heap.size + 1 + 1 + 1]? = some (.cells #[.int .i64 e0] 53 (0, 0))) (s : ByteArray) (k x e : Int) :
    TxtR w (s, k, x, e) ((((W.setCell ⟨w.heap.size + 1, 0, none⟩ (.string s)).setCell ⟨w.heap.size + 1 + 1, 0, none⟩ (.int .i64 k)).setCell ⟨w.heap.size + 1 + 1, 1, none⟩ (.int .u64 x)).setCell ⟨w.heap.size + 1 + 1 + 1, 0, none⟩ (.int .i64 e)) ∧
    (∀ j, j ≠ w.heap.size + 1 → j ≠ w.heap.size + 1 + 1 → j ≠ w.heap.size + 1 + 1 + 1 → ((((W.setCell ⟨w.heap.size + 1, 0, none⟩ (.string s)).setCell ⟨w.heap.size + 1 + 1, 0, none⟩ (.int .i64 k)).setCell ⟨w.heap.size + 1 + 1, 1, none⟩ (.int .u64 x)).setCell ⟨w.heap.size + 1 + 1 + 1, 0, none⟩ (.int .i64 e)).heap[j]? = W.heap[j]?) :=
  ⟨⟨(((hB.setCell (p := ⟨w.heap.size + 1, 0, none⟩) (by show w.heap.size ≤ w.heap.size + 1; omega) _).setCell (p := ⟨w.heap.size + 1 + 1, 0, none⟩) (by show w.heap.size ≤ w.heap.size + 1 + 1; omega) _).setCell (p := ⟨w.heap.size + 1 + 1, 1, none⟩) (by show w.heap.size ≤ w.heap.size + 1 + 1; omega) _).setCell (p := ⟨w.heap.size + 1 + 1 + 1, 0, none⟩) (by show w.heap.size ≤ w.heap.size + 1 + 1 + 1; omega) _,
    blk_far (blk_far (blk_far (blk_put h6 0 _ rfl) (by show _ ≠ w.heap.size + 1 + 1; omega) _) (by show _ ≠ w.heap.size + 1 + 1; omega) _) (by show _ ≠ w.heap.size + 1 + 1 + 1; omega) _,
    blk_far (blk_put (blk_put (blk_far h7 (by show _ ≠ w.heap.size + 1; omega) _) 0 _ rfl) 1 _ rfl) (by show _ ≠ w.heap.size + 1 + 1 + 1; omega) _,
    blk_put (blk_far (blk_far (blk_far h8 (by show _ ≠ w.heap.size + 1; omega) _) (by show _ ≠ w.heap.size + 1 + 1; omega) _) (by show _ ≠ w.heap.size + 1 + 1; omega) _) 0 _ rfl⟩,
   fun j h1 h2 h3 => (set_far h3).trans ((set_far h2).trans ((set_far h2).trans (set_far h1)))⟩
end Go.Proofs.Ytgkjdpdmmlalcaa.F
end
section
namespace Go.Proofs.Ytgkjdpdmmlalcaa.F
open Go.RowKit Go.Proofs.YtgkjdpdmmlalcaaW.PrintWords Go.Proofs.YtgkjdpdmmlalcaaW.PrintLast Go.Proofs.YtgkjdpdmmlalcaaW.PrintMore
attribute [local go_sem] max2_int min2_int max_two min_two max_three min_three max_four min_four
set_option linter.unusedVariables false
set_option linter.unusedSimpArgs false

def ferryref05_kind.f (k : Nat) (l0_0 : List (S83)) (l0_1 : List (S88)) (a0_2 : Int) (l0_3 : List (S41)) (a1 : Int) (a2 : Int) : Option (Int) := if a1 ≥ 4294967296 then (some 1) else ((ferryref04_Prot.f k l0_0 l0_1 a0_2 l0_3 (((a1) % 4294967296) / 4096)).bind fun t287 => (if t287 < 0 then (some 1) else (if a2 > 0 then (if (Go.bits .and .i64 t287 a2) = 0 then (some 2) else (some 0)) else (some 0))))
set_option maxHeartbeats 8000000 in
set_option maxRecDepth 100000 in
theorem ferryref05_kind.calls (k : Nat) (A0_0 : Option Addr) (c0_0 : Nat) (l0_0 : List (S83)) (A0_1 : Option Addr) (c0_1 : Nat) (l0_1 : List (S88)) (a0_2 : Int) (A0_3 : Option Addr) (c0_3 : Nat) (l0_3 : List (S41)) (a1 : Int) (a2 : Int) (r : Int) (w : World) (hr0_0 : Kd.C k83 w A0_0 l0_0.length l0_0) (hc0_0 : l0_0.length ≤ c0_0) (hr0_1 : Kd.C k88 w A0_1 l0_1.length l0_1) (hc0_1 : l0_1.length ≤ c0_1) (hr0_3 : Kd.C k41 w A0_3 l0_3.length l0_3) (hc0_3 : l0_3.length ≤ c0_3) (h : ferryref05_kind.f k l0_0 l0_1 a0_2 l0_3 a1 a2 = some r) :
    Calls Try.prog 60 #[.agg #[.slice A0_0 l0_0.length c0_0, .slice A0_1 l0_1.length c0_1, .int .u64 a0_2, .slice A0_3 l0_3.length c0_3], .int .u64 a1, .int .i64 a2] w fun e w' => e = .returned (.int .i64 r) ∧ Below w.heap.size w w' := by
  have hu29 := Try.underlying29
  have HR0_0 := Aside0.mk hr0_0
  have HC0_0 := Aside0.mk hc0_0
  clear hr0_0 hc0_0
  have HR0_1 := Aside0.mk hr0_1
  have HC0_1 := Aside0.mk hc0_1
  clear hr0_1 hc0_1
  have HR0_3 := Aside0.mk hr0_3
  have HC0_3 := Aside0.mk hc0_3
  clear hr0_3 hc0_3
  have HB := Aside0.mk (Below.refl w.heap.size w)
  have H : (if a1 ≥ 4294967296 then (some 1) else ((ferryref04_Prot.f k l0_0 l0_1 a0_2 l0_3 (((a1) % 4294967296) / 4096)).bind fun t287 => (if t287 < 0 then (some 1) else (if a2 > 0 then (if (Go.bits .and .i64 t287 a2) = 0 then (some 2) else (some 0)) else (some 0))))) = some r := h
  clear h
  by_cases c4 : a1 ≥ 4294967296
  · rw [if_pos c4] at H
    have c4b0 : decide (4294967296 ≤ a1) = true := decide_eq_true c4
    clear c4
    obtain rfl := Option.some.inj H
    go_enter Try.func60, Try.ntmps60
    go_wp2_with (first | ((with_reducible refine gate_dst (N := 3) rfl ?_); refine bE_ 3 #[.slice A0_0 l0_0.length c0_0, .slice A0_1 l0_1.length c0_1, .int .u64 a0_2, .slice A0_3 l0_3.length c0_3] 29 ?_; intro gb286 hg w5 hbox hb; have BK286 := Aside0.mk hbox; have GW286 := geT_ w.heap.size hg; have GE286 := geT_ w.heap.size hg; replace HB := hB_ hb; clear hb hbox hg))
    go_ret
    exact ⟨r3_, beT_⟩
  rw [if_neg c4] at H
  have c4b0 : decide (4294967296 ≤ a1) = false := decide_eq_false c4
  clear c4
  replace H := Option.bind_eq_some_iff.mp H
  obtain ⟨t287, A60, H⟩ := H
  have A6 := Aside0.mk A60
  clear A60
  by_cases c7 : t287 < 0
  · rw [if_pos c7] at H
    have c7b0 : decide (t287 < 0) = true := decide_eq_true c7
    clear c7
    obtain rfl := Option.some.inj H
    go_enter Try.func60, Try.ntmps60
    go_wp2_with (first | ((with_reducible refine gate_dst (N := 3) rfl ?_); refine bE_ 3 #[.slice A0_0 l0_0.length c0_0, .slice A0_1 l0_1.length c0_1, .int .u64 a0_2, .slice A0_3 l0_3.length c0_3] 29 ?_; intro gb286 hg w8 hbox hb; have BK286 := Aside0.mk hbox; have GW286 := geT_ w.heap.size hg; have GE286 := geT_ w.heap.size hg; replace HB := hB_ hb; clear hb hbox hg; obtain ⟨hcz9_0, hcz9_1, hcz9_2, hcz9_3, hfz9_0, hfz9_1, hfz9_2, hfz9_3⟩ := b4_ BK286.out) | ((with_reducible refine gate_callee (f := 30) rfl ?_); refine gL_ (some 14) Try.func30 #[.agg #[.slice A0_0 l0_0.length c0_0, .slice A0_1 l0_1.length c0_1, .int .u64 a0_2, .slice A0_3 l0_3.length c0_3], .int .u32 (((a1) % 4294967296) / 4096)] ?_; (with_reducible refine (ferryref04_Prot.calls k _ _ l0_0 _ _ l0_1 a0_2 _ _ l0_3 (((a1) % 4294967296) / 4096) t287 _ ?side1 ?side2 ?side3 ?side4 ?side5 ?side6 A6.out).mono ?_); (case side1 => exact cT_ (Kd.C_below HR0_0.out HB.out)); (case side2 => exact HC0_0.out); (case side3 => exact cT_ (Kd.C_below HR0_1.out HB.out)); (case side4 => exact HC0_1.out); (case side5 => exact cT_ (Kd.C_below HR0_3.out HB.out)); (case side6 => exact HC0_3.out); rintro e w10 ⟨rfl, hb⟩; refine ⟨_, rfl, ?_⟩; replace BK286 := kB_ BK286 hb; replace HB := hB_ hb; (try clear hb); (try clear hb2); (try clear hk); (try clear hi)))
    go_ret
    exact ⟨r3_, beT_⟩
  rw [if_neg c7] at H
  have c7b0 : decide (t287 < 0) = false := decide_eq_false c7
  clear c7
  by_cases c11 : a2 > 0
  · rw [if_pos c11] at H
    have c11b0 : decide (0 < a2) = true := decide_eq_true c11
    clear c11
    by_cases c12 : (Go.bits .and .i64 t287 a2) = 0
    · rw [if_pos c12] at H
      have c12b0 : ((Go.bits .and .i64 t287 a2) == 0) = true := beq_iff_eq.mpr c12
      have c12b1 : ((Go.bits .and .i64 t287 a2) != 0) = false := bne_eq_false_iff_eq.mpr c12
      clear c12
      obtain rfl := Option.some.inj H
      go_enter Try.func60, Try.ntmps60
      go_wp2_with (first | ((with_reducible refine gate_dst (N := 3) rfl ?_); refine bE_ 3 #[.slice A0_0 l0_0.length c0_0, .slice A0_1 l0_1.length c0_1, .int .u64 a0_2, .slice A0_3 l0_3.length c0_3] 29 ?_; intro gb286 hg w13 hbox hb; have BK286 := Aside0.mk hbox; have GW286 := geT_ w.heap.size hg; have GE286 := geT_ w.heap.size hg; replace HB := hB_ hb; clear hb hbox hg; obtain ⟨hcz14_0, hcz14_1, hcz14_2, hcz14_3, hfz14_0, hfz14_1, hfz14_2, hfz14_3⟩ := b4_ BK286.out) | ((with_reducible refine gate_callee (f := 30) rfl ?_); refine gL_ (some 14) Try.func30 #[.agg #[.slice A0_0 l0_0.length c0_0, .slice A0_1 l0_1.length c0_1, .int .u64 a0_2, .slice A0_3 l0_3.length c0_3], .int .u32 (((a1) % 4294967296) / 4096)] ?_; (with_reducible refine (ferryref04_Prot.calls k _ _ l0_0 _ _ l0_1 a0_2 _ _ l0_3 (((a1) % 4294967296) / 4096) t287 _ ?side1 ?side2 ?side3 ?side4 ?side5 ?side6 A6.out).mono ?_); (case side1 => exact cT_ (Kd.C_below HR0_0.out HB.out)); (case side2 => exact HC0_0.out); (case side3 => exact cT_ (Kd.C_below HR0_1.out HB.out)); (case side4 => exact HC0_1.out); (case side5 => exact cT_ (Kd.C_below HR0_3.out HB.out)); (case side6 => exact HC0_3.out); rintro e w15 ⟨rfl, hb⟩; refine ⟨_, rfl, ?_⟩; replace BK286 := kB_ BK286 hb; replace HB := hB_ hb; (try clear hb); (try clear hb2); (try clear hk); (try clear hi)))
      go_ret
      exact ⟨r3_, beT_⟩
    rw [if_neg c12] at H
    have c12b0 : ((Go.bits .and .i64 t287 a2) == 0) = false := beq_eq_false_iff_ne.mpr c12
    have c12b1 : ((Go.bits .and .i64 t287 a2) != 0) = true := bne_iff_ne.mpr c12
    obtain rfl := Option.some.inj H
    go_enter Try.func60, Try.ntmps60
    go_wp2_with (first | ((with_reducible refine gate_dst (N := 3) rfl ?_); refine bE_ 3 #[.slice A0_0 l0_0.length c0_0, .slice A0_1 l0_1.length c0_1, .int .u64 a0_2, .slice A0_3 l0_3.length c0_3] 29 ?_; intro gb286 hg w16 hbox hb; have BK286 := Aside0.mk hbox; have GW286 := geT_ w.heap.size hg; have GE286 := geT_ w.heap.size hg; replace HB := hB_ hb; clear hb hbox hg; obtain ⟨hcz17_0, hcz17_1, hcz17_2, hcz17_3, hfz17_0, hfz17_1, hfz17_2, hfz17_3⟩ := b4_ BK286.out) | ((with_reducible refine gate_callee (f := 30) rfl ?_); refine gL_ (some 14) Try.func30 #[.agg #[.slice A0_0 l0_0.length c0_0, .slice A0_1 l0_1.length c0_1, .int .u64 a0_2, .slice A0_3 l0_3.length c0_3], .int .u32 (((a1) % 4294967296) / 4096)] ?_; (with_reducible refine (ferryref04_Prot.calls k _ _ l0_0 _ _ l0_1 a0_2 _ _ l0_3 (((a1) % 4294967296) / 4096) t287 _ ?side1 ?side2 ?side3 ?side4 ?side5 ?side6 A6.out).mono ?_); (case side1 => exact cT_ (Kd.C_below HR0_0.out HB.out)); (case side2 => exact HC0_0.out); (case side3 => exact cT_ (Kd.C_below HR0_1.out HB.out)); (case side4 => exact HC0_1.out); (case side5 => exact cT_ (Kd.C_below HR0_3.out HB.out)); (case side6 => exact HC0_3.out); rintro e w18 ⟨rfl, hb⟩; refine ⟨_, rfl, ?_⟩; replace BK286 := kB_ BK286 hb; replace HB := hB_ hb; (try clear hb); (try clear hb2); (try clear hk); (try clear hi)))
    go_ret
    exact ⟨r3_, beT_⟩
  rw [if_neg c11] at H
  have c11b0 : decide (0 < a2) = false := decide_eq_false c11
  clear c11
  obtain rfl := Option.some.inj H
  go_enter Try.func60, Try.ntmps60
  go_wp2_with (first | ((with_reducible refine gate_dst (N := 3) rfl ?_); refine bE_ 3 #[.slice A0_0 l0_0.length c0_0, .slice A0_1 l0_1.length c0_1, .int .u64 a0_2, .slice A0_3 l0_3.length c0_3] 29 ?_; intro gb286 hg w19 hbox hb; have BK286 := Aside0.mk hbox; have GW286 := geT_ w.heap.size hg; have GE286 := geT_ w.heap.size hg; replace HB := hB_ hb; clear hb hbox hg; obtain ⟨hcz20_0, hcz20_1, hcz20_2, hcz20_3, hfz20_0, hfz20_1, hfz20_2, hfz20_3⟩ := b4_ BK286.out) | ((with_reducible refine gate_callee (f := 30) rfl ?_); refine gL_ (some 14) Try.func30 #[.agg #[.slice A0_0 l0_0.length c0_0, .slice A0_1 l0_1.length c0_1, .int .u64 a0_2, .slice A0_3 l0_3.length c0_3], .int .u32 (((a1) % 4294967296) / 4096)] ?_; (with_reducible refine (ferryref04_Prot.calls k _ _ l0_0 _ _ l0_1 a0_2 _ _ l0_3 (((a1) % 4294967296) / 4096) t287 _ ?side1 ?side2 ?side3 ?side4 ?side5 ?side6 A6.out).mono ?_); (case side1 => exact cT_ (Kd.C_below HR0_0.out HB.out)); (case side2 => exact HC0_0.out); (case side3 => exact cT_ (Kd.C_below HR0_1.out HB.out)); (case side4 => exact HC0_1.out); (case side5 => exact cT_ (Kd.C_below HR0_3.out HB.out)); (case side6 => exact HC0_3.out); rintro e w21 ⟨rfl, hb⟩; refine ⟨_, rfl, ?_⟩; replace BK286 := kB_ BK286 hb; replace HB := hB_ hb; (try clear hb); (try clear hb2); (try clear hk); (try clear hi)))
  go_ret
  exact ⟨r3_, beT_⟩

end Go.Proofs.Ytgkjdpdmmlalcaa.F
end
section
namespace Go.Proofs.Ytgkjdpdmmlalcaa.F
open Go.RowKit Go.Proofs.YtgkjdpdmmlalcaaW.PrintWords Go.Proofs.YtgkjdpdmmlalcaaW.PrintLast Go.Proofs.YtgkjdpdmmlalcaaW.PrintMore
attribute [local go_sem] max2_int min2_int max_two min_two max_three min_three max_four min_four
attribute [local go_sem] cell_twice
set_option linter.unusedVariables false
set_option linter.unusedSimpArgs false

def ferryref05_ask.l0 : Nat → Int → Int → Int → Int → List (S83) → List (S88) → Int → List (S41) → Option (Int × Int)
  | 0, _, _, _, _, _, _, _, _ => none
  | k + 1, x1, x2, x3, x9, x289000, x289001, x289002, x289003 => if x9 < x2 then ((ferryref05_kind.f k x289000 x289001 x289002 x289003 (IntKind.u64.wrap ((IntKind.u64.wrap (x1)) + (IntKind.u64.wrap (x9)))) x3).bind fun t290 => (if t290 = 0 then (ferryref05_ask.l0 k x1 x2 x3 (wrap64 (x9 + 1)) x289000 x289001 x289002 x289003) else (some (t290, IntKind.u64.wrap ((IntKind.u64.wrap (x1)) + (IntKind.u64.wrap (x9))))))) else (some (0, 0))
def ferryref05_ask.f (k : Nat) (l0_0 : List (S83)) (l0_1 : List (S88)) (a0_2 : Int) (l0_3 : List (S41)) (a1 : Int) (a2 : Int) (a3 : Int) : Option (Int × Int) := ferryref05_ask.l0 k a1 a2 a3 0 l0_0 l0_1 a0_2 l0_3
set_option maxHeartbeats 8000000 in
set_option maxRecDepth 100000 in
theorem ferryref05_ask.calls (k : Nat) (A0_0 : Option Addr) (c0_0 : Nat) (l0_0 : List (S83)) (A0_1 : Option Addr) (c0_1 : Nat) (l0_1 : List (S88)) (a0_2 : Int) (A0_3 : Option Addr) (c0_3 : Nat) (l0_3 : List (S41)) (a1 : Int) (a2 : Int) (a3 : Int) (r1 : Int) (r2 : Int) (w : World) (hr0_0 : Kd.C k83 w A0_0 l0_0.length l0_0) (hc0_0 : l0_0.length ≤ c0_0) (hr0_1 : Kd.C k88 w A0_1 l0_1.length l0_1) (hc0_1 : l0_1.length ≤ c0_1) (hr0_3 : Kd.C k41 w A0_3 l0_3.length l0_3) (hc0_3 : l0_3.length ≤ c0_3) (h : ferryref05_ask.f k l0_0 l0_1 a0_2 l0_3 a1 a2 a3 = some (r1, r2)) :
    Calls Try.prog 54 #[.agg #[.slice A0_0 l0_0.length c0_0, .slice A0_1 l0_1.length c0_1, .int .u64 a0_2, .slice A0_3 l0_3.length c0_3], .int .u32 a1, .int .i64 a2, .int .i64 a3] w fun e w' => e = .returned (.agg #[.int .i64 r1, .int .u64 r2]) ∧ Below w.heap.size w w' := by
  have hu29 := Try.underlying29
  have hu34 := Try.underlying34
  have HR0_0 := Aside0.mk hr0_0
  have HC0_0 := Aside0.mk hc0_0
  clear hr0_0 hc0_0
  have HR0_1 := Aside0.mk hr0_1
  have HC0_1 := Aside0.mk hc0_1
  clear hr0_1 hc0_1
  have HR0_3 := Aside0.mk hr0_3
  have HC0_3 := Aside0.mk hc0_3
  clear hr0_3 hc0_3
  have HB := Aside0.mk (Below.refl w.heap.size w)
  have H : (ferryref05_ask.l0 k a1 a2 a3 0 l0_0 l0_1 a0_2 l0_3) = some (r1, r2) := h
  clear h
  have H' := Aside0.mk H
  clear H
  go_enter Try.func54, Try.ntmps54
  go_wp2_with (first | ((with_reducible refine gate_dst (N := 4) rfl ?_); refine bE_ 4 #[.slice A0_0 l0_0.length c0_0, .slice A0_1 l0_1.length c0_1, .int .u64 a0_2, .slice A0_3 l0_3.length c0_3] 29 ?_; intro gb288 hg w5 hbox hb; have BK288 := Aside0.mk hbox; have GW288 := geT_ w.heap.size hg; have GE288 := geT_ w.heap.size hg; replace HB := hB_ hb; clear hb hbox hg) | ((with_reducible refine gate_dst (N := 8) rfl ?_); refine bE_ 8 #[.int .i64 0, .int .u64 0] 34 ?_; intro gb289 hg w6 hbox hb; have BK289 := Aside0.mk hbox; have GW289 := geT_ w.heap.size hg; have GE289 := geT_ w.heap.size hg; have NB288_289 := nlT_ BK288.out hg; have NB289_288 := ngT_ BK288.out hg; replace BK288 := kB_ BK288 hb; replace HB := hB_ hb; clear hb hbox hg))
  go_loopg [9] k (fun kq v9 w' => ∃ (x9_1 : Int) (x290000_1 : Int) (x290001_1 : Int), v9 = .int .i64 x9_1 ∧ Aside0 (ferryref05_ask.l0 kq a1 a2 a3 x9_1 l0_0 l0_1 a0_2 l0_3 = some (r1, r2)) ∧ Aside0 (kq ≤ k) ∧ Aside0 (w'.heap[gb288]? = some (.cells #[(.slice A0_0 l0_0.length c0_0), (.slice A0_1 l0_1.length c0_1), .int .u64 a0_2, (.slice A0_3 l0_3.length c0_3)] 29 (0, 0))) ∧ Aside0 (w'.heap[gb289]? = some (.cells #[.int .i64 x290000_1, .int .u64 x290001_1] 34 (0, 0))) ∧ Aside0 (Below w.heap.size w w'))
  case atStart => exact ⟨(0), (0), (0), r1_, H', ⟨Nat.le_refl _⟩, ⟨bT_ BK288.out⟩, ⟨bT_ BK289.out⟩, ⟨beT_⟩⟩
  case round =>
    clear H'
    try clear p2
    try clear c5
    obtain ⟨x9_1, x290000_1, x290001_1, rfl, HA, HK1, BK288, BK289, HB⟩ := hrel
    cases gk with
    | zero => exact absurd HA.out (by simp [ferryref05_ask.l0])
    | succ k1 =>
      have H := HA.out
      clear HA
      simp only [ferryref05_ask.l0] at H
      by_cases c7 : x9_1 < a2
      · rw [if_pos c7] at H
        have c7b0 : decide (x9_1 < a2) = true := decide_eq_true c7
        clear c7
        replace H := Option.bind_eq_some_iff.mp H
        obtain ⟨t290, A80, H⟩ := H
        have A8 := Aside0.mk A80
        clear A80
        by_cases c9 : t290 = 0
        · rw [if_pos c9] at H
          have c9b0 : (t290 == 0) = true := beq_iff_eq.mpr c9
          have c9b1 : (t290 != 0) = false := bne_eq_false_iff_eq.mpr c9
          clear c9
          have H' := Aside0.mk H
          clear H
          have hnb10 := NB288_289.out
          have hnc10 := NB289_288.out
          obtain ⟨hcz11_0, hcz11_1, hcz11_2, hcz11_3, hfz11_0, hfz11_1, hfz11_2, hfz11_3⟩ := b4_ BK288.out
          go_wp2_with (first | ((with_reducible refine gate_callee (f := 60) rfl ?_); refine gL_ (some 25) Try.func60 #[.agg #[.slice A0_0 l0_0.length c0_0, .slice A0_1 l0_1.length c0_1, .int .u64 a0_2, .slice A0_3 l0_3.length c0_3], .int .u64 (IntKind.u64.wrap ((IntKind.u64.wrap (a1)) + (IntKind.u64.wrap (x9_1)))), .int .i64 a3] ?_; (with_reducible refine (ferryref05_kind.calls k1 _ _ l0_0 _ _ l0_1 a0_2 _ _ l0_3 (IntKind.u64.wrap ((IntKind.u64.wrap (a1)) + (IntKind.u64.wrap (x9_1)))) a3 t290 _ ?side1 ?side2 ?side3 ?side4 ?side5 ?side6 A8.out).mono ?_); (case side1 => exact cT_ (Kd.C_below HR0_0.out HB.out)); (case side2 => exact HC0_0.out); (case side3 => exact cT_ (Kd.C_below HR0_1.out HB.out)); (case side4 => exact HC0_1.out); (case side5 => exact cT_ (Kd.C_below HR0_3.out HB.out)); (case side6 => exact HC0_3.out); rintro e w12 ⟨rfl, hb⟩; refine ⟨_, rfl, ?_⟩; replace BK288 := kB_ BK288 hb; replace BK289 := kB_ BK289 hb; replace HB := hB_ hb; (try clear hb); (try clear hb2); (try clear hk); (try clear hi)))
          go_roundg k1
          case measure => have := HK1.out; omega
          case rel => exact ⟨(wrap64 (x9_1 + 1)), (x290000_1), (x290001_1), r1_, H', ⟨by have := HK1.out; omega⟩, ⟨bT_ BK288.out⟩, ⟨bT_ BK289.out⟩, ⟨beT_⟩⟩
        rw [if_neg c9] at H
        have c9b0 : (t290 == 0) = false := beq_eq_false_iff_ne.mpr c9
        have c9b1 : (t290 != 0) = true := bne_iff_ne.mpr c9
        simp only [Option.some.injEq, Prod.mk.injEq] at H
        obtain ⟨rfl, rfl⟩ := H
        have hnb13 := NB288_289.out
        have hnc13 := NB289_288.out
        obtain ⟨hcz14_0, hcz14_1, hcz14_2, hcz14_3, hfz14_0, hfz14_1, hfz14_2, hfz14_3⟩ := b4_ BK288.out
        go_wp2_with (first | ((with_reducible refine gate_callee (f := 60) rfl ?_); refine gL_ (some 25) Try.func60 #[.agg #[.slice A0_0 l0_0.length c0_0, .slice A0_1 l0_1.length c0_1, .int .u64 a0_2, .slice A0_3 l0_3.length c0_3], .int .u64 (IntKind.u64.wrap ((IntKind.u64.wrap (a1)) + (IntKind.u64.wrap (x9_1)))), .int .i64 a3] ?_; (with_reducible refine (ferryref05_kind.calls k1 _ _ l0_0 _ _ l0_1 a0_2 _ _ l0_3 (IntKind.u64.wrap ((IntKind.u64.wrap (a1)) + (IntKind.u64.wrap (x9_1)))) a3 t290 _ ?side1 ?side2 ?side3 ?side4 ?side5 ?side6 A8.out).mono ?_); (case side1 => exact cT_ (Kd.C_below HR0_0.out HB.out)); (case side2 => exact HC0_0.out); (case side3 => exact cT_ (Kd.C_below HR0_1.out HB.out)); (case side4 => exact HC0_1.out); (case side5 => exact cT_ (Kd.C_below HR0_3.out HB.out)); (case side6 => exact HC0_3.out); rintro e w15 ⟨rfl, hb⟩; refine ⟨_, rfl, ?_⟩; replace BK288 := kB_ BK288 hb; replace BK289 := kB_ BK289 hb; replace HB := hB_ hb; (try clear hb); (try clear hb2); (try clear hk); (try clear hi); obtain ⟨hcz16_0, hcz16_1, hfz16_0, hfz16_1⟩ := b2_ BK289.out))
        refine bodyPost_ret (results_cell_row rfl _ _ gb289 34 #[.int .i64 t290, .int .u64 (IntKind.u64.wrap ((IntKind.u64.wrap (a1)) + (IntKind.u64.wrap (x9_1))))] (0, 0) _ rfl (kP_ BK289.out) Try.underlying34 rfl (by kernel_rfl)) rfl ?_
        exact ⟨r3_, beT_⟩
      rw [if_neg c7] at H
      have c7b0 : decide (x9_1 < a2) = false := decide_eq_false c7
      clear c7
      simp only [Option.some.injEq, Prod.mk.injEq] at H
      obtain ⟨rfl, rfl⟩ := H
      have hnb17 := NB289_288.out
      have hnc17 := NB288_289.out
      obtain ⟨hcz18_0, hcz18_1, hfz18_0, hfz18_1⟩ := b2_ BK289.out
      go_wp2
      refine bodyPost_ret (results_cell_row rfl _ _ gb289 34 #[.int .i64 0, .int .u64 0] (0, 0) _ rfl (kP_ BK289.out) Try.underlying34 rfl (by kernel_rfl)) rfl ?_
      exact ⟨r3_, beT_⟩

end Go.Proofs.Ytgkjdpdmmlalcaa.F
end
section
namespace Go.Proofs.Ytgkjdpdmmlalcaa.F
open Go.RowKit Go.Proofs.YtgkjdpdmmlalcaaW.PrintWords Go.Proofs.YtgkjdpdmmlalcaaW.PrintLast Go.Proofs.YtgkjdpdmmlalcaaW.PrintMore
attribute [local go_sem] max2_int min2_int max_two min_two max_three min_three max_four min_four
set_option linter.unusedVariables false
set_option linter.unusedSimpArgs false

def ferryref01_Le.l0 : Nat → ByteArray → Int → Int → Option (Int)
  | 0, _, _, _ => none
  | k + 1, x0, x3, x4 => if x4 ≥ 0 then (if 0 ≤ x4 then (if x4 < (x0.size : Int) then (ferryref01_Le.l0 k x0 (IntKind.u64.wrap ((IntKind.u64.wrap (x3 * 256)) + (IntKind.u64.wrap (bt x0 x4)))) (wrap64 (x4 - 1))) else (none)) else (none)) else (some x3)
def ferryref01_Le.f (k : Nat) (a0 : ByteArray) : Option (Int) := if (a0.size : Int) > 8 then (some 0) else (ferryref01_Le.l0 k a0 0 (wrap64 ((a0.size : Int) - 1)))
set_option maxHeartbeats 8000000 in
set_option maxRecDepth 100000 in
theorem ferryref01_Le.calls (k : Nat) (a0 : ByteArray) (r : Int) (w : World) (h : ferryref01_Le.f k a0 = some r) :
    Calls Try.prog 82 #[.string a0] w fun e w' => e = .returned (.int .u64 r) ∧ Drawn0 w w' := by
  have H : (if (a0.size : Int) > 8 then (some 0) else (ferryref01_Le.l0 k a0 0 (wrap64 ((a0.size : Int) - 1)))) = some r := h
  clear h
  by_cases c2 : (a0.size : Int) > 8
  · rw [if_pos c2] at H
    have c2b0 : decide (8 < (a0.size : Int)) = true := decide_eq_true c2
    have c2b1 : decide (8 < a0.size) = true := decide_eq_true (by omega)
    clear c2
    obtain rfl := Option.some.inj H
    go_enter Try.func82, Try.ntmps82
    go_wp2
    go_ret
    exact ⟨by first | rfl | (simp; done) | (simp [*]; done), by repeat (first | exact Drawn0.refl _ | apply Drawn0.step)⟩
  rw [if_neg c2] at H
  have c2b0 : decide (8 < (a0.size : Int)) = false := decide_eq_false c2
  have c2b1 : decide (8 < a0.size) = false := decide_eq_false (by omega)
  clear c2
  have H' := Aside0.mk H
  clear H
  go_enter Try.func82, Try.ntmps82
  go_wp2
  go_loopg [3, 4] k (fun kq v3 v4 w' => ∃ (x3_1 : Int) (x4_1 : Int), v3 = .int .u64 x3_1 ∧ v4 = .int .i64 x4_1 ∧ Aside0 (ferryref01_Le.l0 kq a0 x3_1 x4_1 = some r) ∧ Aside0 (kq ≤ k) ∧ Drawn0 w w')
  case atStart => exact ⟨(0), (wrap64 ((a0.size : Int) - 1)), r1_, r1_, H', ⟨Nat.le_refl _⟩, by repeat (first | exact Drawn0.refl _ | apply Drawn0.step)⟩
  case round =>
    clear H'
    try clear c2
    try clear c2b0
    try clear c2b1
    try clear p2
    obtain ⟨x3_1, x4_1, rfl, rfl, HA, HK1, ⟨m1, rfl⟩⟩ := hrel
    cases gk with
    | zero => exact absurd HA.out (by simp [ferryref01_Le.l0])
    | succ k1 =>
      have H := HA.out
      clear HA
      simp only [ferryref01_Le.l0] at H
      by_cases c3 : x4_1 ≥ 0
      · rw [if_pos c3] at H
        have c3b0 : decide (0 ≤ x4_1) = true := decide_eq_true c3
        clear c3
        by_cases c4 : 0 ≤ x4_1
        · rw [if_pos c4] at H
          have c4b0 : decide (0 ≤ x4_1) = true := decide_eq_true c4
          clear c4
          by_cases c5 : x4_1 < (a0.size : Int)
          · rw [if_pos c5] at H
            have c5b0 : decide (x4_1 < (a0.size : Int)) = true := decide_eq_true c5
            clear c5
            have H' := Aside0.mk H
            clear H
            have p6 : 0 ≤ (x4_1 : Int) := dT_
            have q6 : x4_1 < (a0.size : Int) := dT_
            have hx6 := bt_at a0 x4_1
            replace p6 := eq_true p6
            replace q6 := eq_true q6
            go_wp2
            go_roundg k1
            case measure => have := HK1.out; omega
            case rel => exact ⟨(IntKind.u64.wrap ((IntKind.u64.wrap (x3_1 * 256)) + (IntKind.u64.wrap (bt a0 x4_1)))), (wrap64 (x4_1 - 1)), r1_, r1_, H', ⟨by have := HK1.out; omega⟩, by repeat (first | exact Drawn0.refl _ | apply Drawn0.step)⟩
          rw [if_neg c5] at H
          exact absurd H (by simp)
        rw [if_neg c4] at H
        exact absurd H (by simp)
      rw [if_neg c3] at H
      have c3b0 : decide (0 ≤ x4_1) = false := decide_eq_false c3
      clear c3
      obtain rfl := Option.some.inj H
      go_wp2
      go_ret
      exact ⟨by first | rfl | (simp; done) | (simp [*]; done), by repeat (first | exact Drawn0.refl _ | apply Drawn0.step)⟩

end Go.Proofs.Ytgkjdpdmmlalcaa.F
end
section
namespace Go.Proofs.Ytgkjdpdmmlalcaa.F
open Go.RowKit Go.Proofs.YtgkjdpdmmlalcaaW.PrintWords Go.Proofs.YtgkjdpdmmlalcaaW.PrintLast Go.Proofs.YtgkjdpdmmlalcaaW.PrintMore
attribute [local go_sem] max2_int min2_int max_two min_two max_three min_three max_four min_four
set_option linter.unusedVariables false
set_option linter.unusedSimpArgs false

def swap_Le.f (a0 : ByteArray) : Option (Int) := (swap_number.f a0 true).bind fun t167 => (some t167)
set_option maxHeartbeats 8000000 in
set_option maxRecDepth 100000 in
theorem swap_Le.calls (a0 : ByteArray) (r : Int) (w : World) (h : swap_Le.f a0 = some r) :
    Calls Try.prog 77 #[.string a0] w fun e w' => e = .returned (.int .u64 r) ∧ Below w.heap.size w w' := by
  have HB := Aside0.mk (Below.refl w.heap.size w)
  have H : ((swap_number.f a0 true).bind fun t167 => (some t167)) = some r := h
  clear h
  replace H := Option.bind_eq_some_iff.mp H
  obtain ⟨t167, A20, H⟩ := H
  have A2 := Aside0.mk A20
  clear A20
  obtain rfl := Option.some.inj H
  go_enter Try.func77, Try.ntmps77
  go_wp2_with (first | ((with_reducible refine gate_callee (f := 80) rfl ?_); refine gL_ (some 4) Try.func80 #[.string a0, .bool true] ?_; (with_reducible refine (swap_number.calls a0 true t167 _ A2.out).mono ?_); rintro e w3 ⟨rfl, hb⟩; refine ⟨_, rfl, ?_⟩; replace HB := hB_ hb; (try clear hb); (try clear hb2); (try clear hk); (try clear hi)))
  go_ret
  exact ⟨r3_, beT_⟩

end Go.Proofs.Ytgkjdpdmmlalcaa.F
end
section
namespace Go.Proofs.Ytgkjdpdmmlalcaa.F
open Go.RowKit Go.Shelf Go.Proofs.YtgkjdpdmmlalcaaW.PrintWords Go.Proofs.YtgkjdpdmmlalcaaW.PrintLast Go.Proofs.YtgkjdpdmmlalcaaW.PrintMore
set_option linter.unusedVariables false
set_option linter.unusedSimpArgs false
def bysAt (m : List SC) (a n : Nat) : List UInt8 := (List.range n).map (fun i => UInt8.ofNat (pk m (a + i)))
theorem bysAt_add (m : List SC) (a n k : Nat) : bysAt m a (n + k) = bysAt m a n ++ bysAt m (a + n) k := by
  unfold bysAt
  rw [List.range_add, List.map_append, List.map_map]
  congr 1
  refine List.map_congr_left (fun i _ => ?_)
  show UInt8.ofNat (pk m (a + (n + i))) = UInt8.ofNat (pk m (a + n + i))
  rw [Nat.add_assoc]
theorem leBytes_leN (f : Nat → Nat) (n : Nat) (hf : ∀ i, i < n → f i < 256) : leBytes ((leN n f : Nat) : Int) n = (List.range n).map (fun i => UInt8.ofNat (f i)) := by
  unfold leBytes
  refine List.map_congr_left (fun i hi => ?_)
  have h := byteAt_leN n f hf i (List.mem_range.1 hi)
  unfold byteAt at h
  rw [← h]
  have e : ((leN n f : Nat) : Int) / 256 ^ i % 256 = ((leN n f / 256 ^ i % 256 : Nat) : Int) := by
    rw [Int.natCast_emod, Int.natCast_ediv, Int.natCast_pow]
    rfl
  rw [e, Int.toNat_natCast]
theorem le_val : ∀ s : List UInt8, ∃ v : Nat, beOf s.reverse = (v : Int) ∧ v < 256 ^ s.length ∧ ∀ j (h : j < s.length), byteAt v j = s[j].toNat
  | [] => ⟨0, rfl, by decide, fun j h => absurd h (by simp)⟩
  | x :: s => by
    obtain ⟨v, h1, h2, h3⟩ := le_val s
    have hx := x.toNat_lt
    refine ⟨v * 256 + x.toNat, ?_, ?_, ?_⟩
    · rw [List.reverse_cons, beOf_snoc, h1]
      omega
    · rw [List.length_cons, Nat.pow_succ]
      omega
    · intro j h
      cases j with
      | zero =>
        show (v * 256 + x.toNat) / 256 ^ 0 % 256 = x.toNat
        rw [Nat.pow_zero, Nat.div_one]
        omega
      | succ j =>
        have e := byteAt_succ (v * 256 + x.toNat) j
        rw [e, show (v * 256 + x.toNat) / 256 = v by omega]
        exact h3 j (by simpa using h)
theorem swap_Le_eq (s : ByteArray) (hs : s.size ≤ 8) : swap_Le.f s = some (beOf s.data.toList.reverse) := by
  unfold swap_Le.f swap_number.f
  rw [if_neg (by omega)]
  rfl
theorem ref_Le_loop (s : ByteArray) (hs : s.size ≤ 8) : ∀ (d k : Nat), d ≤ s.size → d < k → ferryref01_Le.l0 k s (beOf ((bys s true).take (s.size - d))) ((d : Int) - 1) = some (beOf (bys s true))
  | 0, k + 1, hd, hk => by
    rw [ferryref01_Le.l0, if_neg (by omega), Nat.sub_zero, List.take_of_length_le (by rw [bys_length]; exact Nat.le_refl _)]
  | d + 1, k + 1, hd, hk => by
    have hb := beOf_bound ((bys s true).take (s.size - (d + 1)))
    have hl : ((bys s true).take (s.size - (d + 1))).length = s.size - (d + 1) := by rw [List.length_take, bys_length]; omega
    rw [hl] at hb
    have hp := pow_le7 (s.size - (d + 1)) (by omega)
    have e0 : ((d + 1 : Nat) : Int) - 1 = (d : Int) := by omega
    have hbt := bt_bys s d (by omega)
    have hbe : (bys s false)[d]'(by rw [bys_length]; omega) = s[d] := rfl
    have hx := (s[d]).toNat_lt
    have hst := beOf_step (beOf ((bys s true).take (s.size - (d + 1)))) (bt s (d : Int)) hb.1 (by omega) (by rw [hbt]; omega) (by rw [hbt, hbe]; omega)
    rw [ferryref01_Le.l0, e0, if_pos (by omega), if_pos (by omega), if_pos (by omega), hst]
    have ht := bys_true s (s.size - (d + 1)) d (by omega) (by omega) (by omega)
    have e1 : s.size - (d + 1) + 1 = s.size - d := by omega
    rw [e1] at ht
    have hw : wrap64 ((d : Int) - 1) = (d : Int) - 1 := by
      unfold wrap64
      omega
    have h2 : beOf ((bys s true).take (s.size - d)) = beOf ((bys s true).take (s.size - (d + 1))) * 256 + bt s (d : Int) := by rw [ht, beOf_snoc, hbt, hbe]
    rw [← h2, hw]
    exact ref_Le_loop s hs d k (by omega) (by omega)
theorem ref_Le_eq (s : ByteArray) (hs : s.size ≤ 8) (k : Nat) (hk : 9 ≤ k) : ferryref01_Le.f k s = some (beOf s.data.toList.reverse) := by
  have h := ref_Le_loop s hs s.size k (Nat.le_refl _) (by omega)
  rw [Nat.sub_self, List.take_zero] at h
  unfold ferryref01_Le.f
  rw [if_neg (by omega), show wrap64 ((s.size : Int) - 1) = (s.size : Int) - 1 by unfold wrap64; omega]
  exact h
end Go.Proofs.Ytgkjdpdmmlalcaa.F
end
section
namespace Go.Proofs.Ytgkjdpdmmlalcaa.F
open Go.RowKit Go.Shelf Go.Proofs.YtgkjdpdmmlalcaaW.PrintWords Go.Proofs.YtgkjdpdmmlalcaaW.PrintLast Go.Proofs.YtgkjdpdmmlalcaaW.PrintMore
set_option linter.unusedVariables false
set_option linter.unusedSimpArgs false
theorem protP_range {p : List SP} (P : PagesG p) (n : Int) : protP p n = -1 ∨ (0 ≤ protP p n ∧ protP p n ≤ 7 ∧ ∃ y ∈ p, y.f0 = n) := by
  by_cases h : has pgK n p = true
  · obtain ⟨y, hy, e⟩ := has_mem.1 h
    have e2 : y.f0 = n := e
    have h1 := protP_mem P.pr hy
    have h2 := P.pp y hy
    rw [e2] at h1
    exact .inr ⟨by omega, by omega, y, hy, e2⟩
  left
  unfold protP
  rw [if_neg h]
theorem and_need {q need : Int} (h0 : 0 ≤ q) (h7 : q ≤ 7) (hn : need = 0 ∨ need = 1 ∨ need = 2 ∨ need = 4) : (if need > 0 then (if Go.bits .and .i64 q need = 0 then some (2 : Int) else some 0) else some 0) = some (if Go.bits .and .i64 q need = need then 0 else 2) := by
  have hq : q = 0 ∨ q = 1 ∨ q = 2 ∨ q = 3 ∨ q = 4 ∨ q = 5 ∨ q = 6 ∨ q = 7 := by omega
  rcases hq with rfl | rfl | rfl | rfl | rfl | rfl | rfl | rfl <;> rcases hn with rfl | rfl | rfl | rfl <;> decide
theorem ref05_kind (l : List SM) (m : List SC) (b : Int) {p : List SP} (P : PagesG p) (hp : p.length ≤ 1000000) {x need : Int} (x0 : 0 ≤ x) (hn : need = 0 ∨ need = 1 ∨ need = 2 ∨ need = 4) (k : Nat) (hk : p.length < k) :
    ferryref05_kind.f k l m b p x need = some (kindS p need x) := by
  unfold ferryref05_kind.f kindS
  by_cases h : x < 4294967296
  · rw [if_neg (by omega), if_pos h, ref04_Prot l m b p hp _ k hk, Option.bind_some, show x % 4294967296 / 4096 = x / 4096 % 4294967296 by omega]
    rcases protP_range P (x / 4096 % 4294967296) with h1 | ⟨h1, h2, _⟩
    · have h3 : protP p (x / 4096 % 4294967296) < 0 := by omega
      rw [if_pos h3, if_pos h3]
    · have h3 : ¬ protP p (x / 4096 % 4294967296) < 0 := by omega
      rw [if_neg h3, if_neg h3]
      exact and_need h1 h2 hn
  rw [if_pos (by omega), if_neg h]
def firstL (p : List SP) (need : Int) (l : List Int) : Int × Int := match l.find? (fun x => decide (kindS p need x ≠ 0)) with
  | some x => (kindS p need x, x)
  | none => (0, 0)
theorem firstL_cons (p : List SP) (need x : Int) (l : List Int) : firstL p need (x :: l) = if kindS p need x = 0 then firstL p need l else (kindS p need x, x) := by
  unfold firstL
  rw [List.find?_cons]
  by_cases h : kindS p need x = 0
  · rw [if_pos h, h]
    rfl
  rw [if_neg h, decide_eq_true h]
theorem spanL_drop (a n : Int) (i : Nat) (h : i < n.toNat) : (spanL a n).drop i = (a + (i : Int)) :: (spanL a n).drop (i + 1) := by
  rw [List.drop_eq_getElem_cons (by rw [spanL_len]; exact h)]
  congr 1
  simp [spanL]
theorem wrap_at {a i : Int} (a0 : 0 ≤ a) (a1 : a < 4294967296) (i0 : 0 ≤ i) (i1 : i ≤ 4294967296) : IntKind.u64.wrap (IntKind.u64.wrap a + IntKind.u64.wrap i) = a + i := by
  rw [u64w, u64w, u64w]
  omega
theorem ref05_ask_l0 (l : List SM) (m : List SC) (b : Int) {p : List SP} (P : PagesG p) (hp : p.length ≤ 1000000) {a n need : Int} (a0 : 0 ≤ a) (a1 : a < 4294967296) (n0 : 0 ≤ n) (n1 : n ≤ 4294967296) (hn : need = 0 ∨ need = 1 ∨ need = 2 ∨ need = 4) :
    ∀ (k i : Nat), i ≤ n.toNat → (n.toNat - i) + p.length + 1 < k → ferryref05_ask.l0 k a n need (i : Int) l m b p = some (firstL p need ((spanL a n).drop i))
  | 0, _, _, h => absurd h (by omega)
  | k + 1, i, hi, hk => by
    rw [ferryref05_ask.l0]
    by_cases h : i < n.toNat
    · rw [if_pos (by omega), wrap_at a0 a1 (by omega) (by omega), ref05_kind l m b P hp (by omega) hn k (by omega), Option.bind_some, spanL_drop a n i h, firstL_cons]
      by_cases hz : kindS p need (a + (i : Int)) = 0
      · rw [if_pos hz, if_pos hz, show wrap64 ((i : Int) + 1) = ((i + 1 : Nat) : Int) by unfold wrap64; omega]
        exact ref05_ask_l0 l m b P hp a0 a1 n0 n1 hn k (i + 1) (by omega) (by omega)
      rw [if_neg hz, if_neg hz]
    rw [if_neg (by omega), List.drop_of_length_le (by rw [spanL_len]; omega)]
    rfl
theorem ref05_ask (l : List SM) (m : List SC) (b : Int) {p : List SP} (P : PagesG p) (hp : p.length ≤ 1000000) {a n need : Int} (a0 : 0 ≤ a) (a1 : a < 4294967296) (n0 : 0 ≤ n) (n1 : n ≤ 4294967296) (hn : need = 0 ∨ need = 1 ∨ need = 2 ∨ need = 4) (k : Nat) (hk : n.toNat + p.length + 1 < k) :
    ferryref05_ask.f k l m b p a n need = some (firstS p a n need) := ref05_ask_l0 l m b P hp a0 a1 n0 n1 hn k 0 (Nat.zero_le _) (by omega)
theorem firstS_f (l : List SM) (m : List SC) (b : Int) {p : List SP} (P : PagesG p) (hp : p.length ≤ 1000000) {a n need : Int} (a0 : 0 ≤ a) (a1 : a < 4294967296) (n0 : 0 ≤ n) (n1 : n < 4294967296) : gmem_first.f l m b p a n need = some (firstS p a n need) := by
  unfold gmem_first.f
  rw [if_pos (okSp_iff.2 ⟨P.pr, hp, a0, a1, n0, n1⟩)]
def Mapd (p : List SP) (x : Int) : Prop := x < 4294967296 ∧ ∃ y ∈ p, y.f0 = x / 4096
theorem mapd_of {p : List SP} (P : PagesG p) {need x : Int} (x0 : 0 ≤ x) (h : kindS p need x = 0) : Mapd p x := by
  unfold kindS at h
  split at h
  · rename_i h1
    rcases protP_range P (x / 4096 % 4294967296) with h2 | ⟨_, _, y, hy, e⟩
    · rw [if_pos (by omega)] at h
      cases h
    · exact ⟨h1, y, hy, by omega⟩
  · cases h
theorem firstS_zero {p : List SP} {a n need : Int} (h : (firstS p a n need).1 = 0) : firstS p a n need = (0, 0) ∧ ∀ x ∈ spanL a n, kindS p need x = 0 := by
  unfold firstS at h ⊢
  cases hf : (spanL a n).find? (fun x => decide (kindS p need x ≠ 0)) with
  | none =>
    rw [hf] at h
    refine ⟨rfl, fun x hx => ?_⟩
    have h2 := List.find?_eq_none.1 hf x hx
    exact Classical.byContradiction (fun h3 => h2 (decide_eq_true h3))
  | some x =>
    rw [hf] at h
    have h2 := List.find?_some hf
    exact absurd h (of_decide_eq_true h2)
theorem spanL_mem {a n x : Int} : x ∈ spanL a n ↔ a ≤ x ∧ x < a + n := by
  simp only [spanL, List.mem_map, List.mem_range]
  constructor
  · rintro ⟨i, hi, rfl⟩
    omega
  · intro h
    exact ⟨(x - a).toNat, by omega, by omega⟩
theorem FitG.host {l : List SM} {m : List SC} {b : Int} {p : List SP} (h : FitG l m b p) {x : Int} (x0 : 0 ≤ x) (hx : Mapd p x) : has mpK ((b + x) / 16384) l = true ∧ faultS l (b + x) 1 = 0 ∧ faultS l (b + x) 2 = 0 := by
  obtain ⟨_, y, hy, e⟩ := hx
  have h1 := h.pm y hy
  have h2 := h.prt hy
  have h3 := h.base.b2
  have e2 : hoN b y.f0 = (b + x) / 16384 := by
    unfold hoN
    omega
  rw [e2] at h1 h2
  refine ⟨h1, ?_, ?_⟩
  · unfold faultS
    rw [if_pos h1, h2]
    decide
  · unfold faultS
    rw [if_pos h1, h2]
    decide
end Go.Proofs.Ytgkjdpdmmlalcaa.F
end
section
namespace Go.Proofs.Ytgkjdpdmmlalcaa.F
open Go.RowKit Go.Shelf Go.Proofs.YtgkjdpdmmlalcaaW.PrintWords Go.Proofs.YtgkjdpdmmlalcaaW.PrintLast Go.Proofs.YtgkjdpdmmlalcaaW.PrintMore
set_option linter.unusedVariables false
set_option linter.unusedSimpArgs false
section
variable {l : List SM} {m : List SC} {b : Int} {p : List SP}
theorem FitG.load (h : FitG l m b p) {x : Int} {n : Nat} (x0 : 0 ≤ x) (n1 : 1 ≤ n) (n8 : n ≤ 8) (hx : ∀ j : Nat, j < n → Mapd p (x + (j : Int))) : loadS l m (b + x) (n : Int) = (((leN n (fun i => pk m ((b + x).toNat + i)) : Nat) : Int), 0, 0) := by
  have hb := h.base.b1
  have hb0 := h.base.b0
  have ha : askS l (b + x) 1 n 0 = (0, 0) := askS_all (by omega) (Int.le_refl 0) (fun j j0 j1 => by
    have h1 := hx j.toNat (by omega)
    have e : ((j.toNat : Nat) : Int) = j := by omega
    rw [e] at h1
    have h2 := (h.host (x := x + j) (by omega) h1).2.1
    have h3 := h1.1
    rw [← Int.add_assoc] at h2
    exact ⟨by omega, h2⟩)
  unfold loadS
  rw [if_neg (by omega), Int.toNat_natCast, ha, if_pos rfl]
theorem FitG.readGo (h : FitG l m b p) : ∀ (f n : Nat) (x : Int) (acc : List UInt8), 0 ≤ x → (∀ j : Nat, j < n → Mapd p (x + (j : Int))) → n < f → F.readGo l m f (b + x) n acc = some (acc ++ bysAt m (b + x).toNat n)
  | 0, n, x, acc, _, _, hf => absurd hf (by omega)
  | f + 1, n, x, acc, x0, hx, hf => by
    have hb := h.base.b1
    have hb0 := h.base.b0
    rw [F.readGo]
    by_cases h0 : 0 < n
    · have hz := (hx 0 h0).1
      have hlast := (hx (n - 1) (by omega)).1
      have hk : min n 8 ≤ 8 ∧ min n 8 ≤ n ∧ 1 ≤ min n 8 := by omega
      rw [if_pos h0, host_Load_spec l h.h.cells h.h.lr (Nat.le_trans h.h.ln (by decide)) (Nat.le_trans h.h.mn (by decide)) (by omega) (by omega) 60 (by decide), h.load x0 hk.2.2 hk.1 (fun j hj => hx j (by omega)), Option.bind_some]
      dsimp only
      have e : IntKind.u64.wrap (b + x + ((min n 8 : Nat) : Int)) = b + (x + ((min n 8 : Nat) : Int)) := by
        rw [u64w]
        omega
      rw [e, leBytes_leN _ _ (fun i _ => pk_lt _ _)]
      have hr := FitG.readGo h f (n - min n 8) (x + ((min n 8 : Nat) : Int)) (acc ++ bysAt m (b + x).toNat (min n 8)) (by omega) (fun j hj => by
        have h1 := hx (min n 8 + j) (by omega)
        rwa [Int.natCast_add, ← Int.add_assoc] at h1) (by omega)
      have e2 : (b + (x + ((min n 8 : Nat) : Int))).toNat = (b + x).toNat + min n 8 := by omega
      have e3 : bysAt m (b + x).toNat (min n 8) ++ bysAt m ((b + x).toNat + min n 8) (n - min n 8) = bysAt m (b + x).toNat n := by
        rw [← bysAt_add]
        congr 1
        omega
      rw [e2, List.append_assoc, e3] at hr
      exact hr
    have : n = 0 := by omega
    subst this
    rw [if_neg h0]
    simp [bysAt]
end
end Go.Proofs.Ytgkjdpdmmlalcaa.F
end
section
namespace Go.Proofs.Ytgkjdpdmmlalcaa.F
open Go.RowKit Go.Proofs.YtgkjdpdmmlalcaaW.PrintWords Go.Proofs.YtgkjdpdmmlalcaaW.PrintLast Go.Proofs.YtgkjdpdmmlalcaaW.PrintMore
attribute [local go_sem] max2_int min2_int max_two min_two max_three min_three max_four min_four
attribute [local go_sem] cell_twice
set_option linter.unusedVariables false
set_option linter.unusedSimpArgs false

def gmem_Bytes.f (l0_0 : List (S83)) (l0_1 : List (S88)) (a0_2 : Int) (l0_3 : List (S41)) (a1 : Int) (a2 : Int) : Option (ByteArray × Int × Int) := if a2 > 65536 then (some ((⟨#[]⟩ : ByteArray), 1, 0)) else ((gmem_first.f l0_0 l0_1 a0_2 l0_3 a1 (wrap64 (a2)) 1).bind fun bt145 => (if bt145.1 = 0 then ((gmem_read.f l0_0 l0_1 a0_2 l0_3 a1 (wrap64 (a2))).bind fun t148 => (some (t148, 0, 0))) else (some ((⟨#[]⟩ : ByteArray), bt145.1, bt145.2))))
set_option maxHeartbeats 8000000 in
set_option maxRecDepth 100000 in
theorem gmem_Bytes.calls (A0_0 : Option Addr) (c0_0 : Nat) (l0_0 : List (S83)) (A0_1 : Option Addr) (c0_1 : Nat) (l0_1 : List (S88)) (a0_2 : Int) (A0_3 : Option Addr) (c0_3 : Nat) (l0_3 : List (S41)) (a1 : Int) (a2 : Int) (r1 : ByteArray) (r2 : Int) (r3 : Int) (w : World) (hr0_0 : Kd.C k83 w A0_0 l0_0.length l0_0) (hc0_0 : l0_0.length ≤ c0_0) (hr0_1 : Kd.C k88 w A0_1 l0_1.length l0_1) (hc0_1 : l0_1.length ≤ c0_1) (hr0_3 : Kd.C k41 w A0_3 l0_3.length l0_3) (hc0_3 : l0_3.length ≤ c0_3) (h : gmem_Bytes.f l0_0 l0_1 a0_2 l0_3 a1 a2 = some (r1, r2, r3)) :
    Calls Try.prog 13 #[.agg #[.slice A0_0 l0_0.length c0_0, .slice A0_1 l0_1.length c0_1, .int .u64 a0_2, .slice A0_3 l0_3.length c0_3], .int .u32 a1, .int .u32 a2] w fun e w' => e = .returned (.tuple #[.string r1, .agg #[.int .i64 r2, .int .u64 r3]]) ∧ Below w.heap.size w w' := by
  have hu29 := Try.underlying29
  have hu34 := Try.underlying34
  have HR0_0 := Aside0.mk hr0_0
  have HC0_0 := Aside0.mk hc0_0
  clear hr0_0 hc0_0
  have HR0_1 := Aside0.mk hr0_1
  have HC0_1 := Aside0.mk hc0_1
  clear hr0_1 hc0_1
  have HR0_3 := Aside0.mk hr0_3
  have HC0_3 := Aside0.mk hc0_3
  clear hr0_3 hc0_3
  have HB := Aside0.mk (Below.refl w.heap.size w)
  have H : (if a2 > 65536 then (some ((⟨#[]⟩ : ByteArray), 1, 0)) else ((gmem_first.f l0_0 l0_1 a0_2 l0_3 a1 (wrap64 (a2)) 1).bind fun bt145 => (if bt145.1 = 0 then ((gmem_read.f l0_0 l0_1 a0_2 l0_3 a1 (wrap64 (a2))).bind fun t148 => (some (t148, 0, 0))) else (some ((⟨#[]⟩ : ByteArray), bt145.1, bt145.2))))) = some (r1, r2, r3) := h
  clear h
  by_cases c4 : a2 > 65536
  · rw [if_pos c4] at H
    have c4b0 : decide (65536 < a2) = true := decide_eq_true c4
    clear c4
    simp only [Option.some.injEq, Prod.mk.injEq] at H
    obtain ⟨rfl, rfl, rfl⟩ := H
    go_enter Try.func13, Try.ntmps13
    go_wp2_with (first | ((with_reducible refine gate_dst (N := 3) rfl ?_); refine bE_ 3 #[.slice A0_0 l0_0.length c0_0, .slice A0_1 l0_1.length c0_1, .int .u64 a0_2, .slice A0_3 l0_3.length c0_3] 29 ?_; intro gb143 hg w5 hbox hb; have BK143 := Aside0.mk hbox; have GW143 := geT_ w.heap.size hg; have GE143 := geT_ w.heap.size hg; replace HB := hB_ hb; clear hb hbox hg) | ((with_reducible refine gate_dst (N := 7) rfl ?_); refine bE_ 7 #[.int .i64 0, .int .u64 0] 34 ?_; intro gb144 hg w6 hbox hb; have BK144 := Aside0.mk hbox; have GW144 := geT_ w.heap.size hg; have GE144 := geT_ w.heap.size hg; have NB143_144 := nlT_ BK143.out hg; have NB144_143 := ngT_ BK143.out hg; replace BK143 := kB_ BK143 hb; replace HB := hB_ hb; clear hb hbox hg; have hnb7 := NB144_143.out; have hnc7 := NB143_144.out; obtain ⟨hcz8_0, hcz8_1, hfz8_0, hfz8_1⟩ := b2_ BK144.out))
    refine bodyPost_ret (results_tc rfl _ _ gb144 34 #[.int .i64 1, .int .u64 0] (0, 0) _ rfl (kP_ BK144.out) Try.underlying34 rfl (by kernel_rfl)) rfl ?_
    exact ⟨r3_, beT_⟩
  rw [if_neg c4] at H
  have c4b0 : decide (65536 < a2) = false := decide_eq_false c4
  clear c4
  replace H := Option.bind_eq_some_iff.mp H
  obtain ⟨⟨t145, t146⟩, A90, H⟩ := H
  have A9 := Aside0.mk A90
  clear A90
  by_cases c10 : t145 = 0
  · rw [if_pos c10] at H
    have c10b0 : (t145 == 0) = true := beq_iff_eq.mpr c10
    have c10b1 : (t145 != 0) = false := bne_eq_false_iff_eq.mpr c10
    clear c10
    replace H := Option.bind_eq_some_iff.mp H
    obtain ⟨t148, A110, H⟩ := H
    have A11 := Aside0.mk A110
    clear A110
    simp only [Option.some.injEq, Prod.mk.injEq] at H
    obtain ⟨rfl, rfl, rfl⟩ := H
    go_enter Try.func13, Try.ntmps13
    go_wp2_with (first | ((with_reducible refine gate_dst (N := 3) rfl ?_); refine bE_ 3 #[.slice A0_0 l0_0.length c0_0, .slice A0_1 l0_1.length c0_1, .int .u64 a0_2, .slice A0_3 l0_3.length c0_3] 29 ?_; intro gb143 hg w12 hbox hb; have BK143 := Aside0.mk hbox; have GW143 := geT_ w.heap.size hg; have GE143 := geT_ w.heap.size hg; replace HB := hB_ hb; clear hb hbox hg) | ((with_reducible refine gate_dst (N := 7) rfl ?_); refine bE_ 7 #[.int .i64 0, .int .u64 0] 34 ?_; intro gb144 hg w13 hbox hb; have BK144 := Aside0.mk hbox; have GW144 := geT_ w.heap.size hg; have GE144 := geT_ w.heap.size hg; have NB143_144 := nlT_ BK143.out hg; have NB144_143 := ngT_ BK143.out hg; replace BK143 := kB_ BK143 hb; replace HB := hB_ hb; clear hb hbox hg; have hnb14 := NB143_144.out; have hnc14 := NB144_143.out; obtain ⟨hcz15_0, hcz15_1, hcz15_2, hcz15_3, hfz15_0, hfz15_1, hfz15_2, hfz15_3⟩ := b4_ BK143.out) | ((with_reducible refine gate_callee (f := 41) rfl ?_); refine gL_ (some 16) Try.func41 #[.agg #[.slice A0_0 l0_0.length c0_0, .slice A0_1 l0_1.length c0_1, .int .u64 a0_2, .slice A0_3 l0_3.length c0_3], .int .u32 a1, .int .i64 (wrap64 (a2)), .int .i64 1] ?_; (with_reducible refine (gmem_first.calls _ _ l0_0 _ _ l0_1 a0_2 _ _ l0_3 a1 (wrap64 (a2)) 1 t145 t146 _ ?side1 ?side2 ?side3 ?side4 ?side5 ?side6 A9.out).mono ?_); (case side1 => exact cT_ (Kd.C_below HR0_0.out HB.out)); (case side2 => exact HC0_0.out); (case side3 => exact cT_ (Kd.C_below HR0_1.out HB.out)); (case side4 => exact HC0_1.out); (case side5 => exact cT_ (Kd.C_below HR0_3.out HB.out)); (case side6 => exact HC0_3.out); rintro e w16 ⟨rfl, hb⟩; refine ⟨_, rfl, ?_⟩; replace BK143 := kB_ BK143 hb; replace BK144 := kB_ BK144 hb; replace HB := hB_ hb; (try clear hb); (try clear hb2); (try clear hk); (try clear hi)) | ((with_reducible refine gate_dst (N := 8) rfl ?_); refine bE_ 8 #[.int .i64 0, .int .u64 0] 34 ?_; intro gb147 hg w17 hbox hb; have BK147 := Aside0.mk hbox; have GW147 := geT_ w.heap.size hg; have GE147 := geT_ w.heap.size hg; have NB143_147 := nlT_ BK143.out hg; have NB147_143 := ngT_ BK143.out hg; have NB144_147 := nlT_ BK144.out hg; have NB147_144 := ngT_ BK144.out hg; replace BK143 := kB_ BK143 hb; replace BK144 := kB_ BK144 hb; replace HB := hB_ hb; clear hb hbox hg; have hnb18 := NB147_143.out; have hnc18 := NB143_147.out; have hnb19 := NB147_144.out; have hnc19 := NB144_147.out; obtain ⟨hcz20_0, hcz20_1, hfz20_0, hfz20_1⟩ := b2_ BK147.out; obtain ⟨hcz21_0, hcz21_1, hcz21_2, hcz21_3, hfz21_0, hfz21_1, hfz21_2, hfz21_3⟩ := b4_ BK143.out) | ((with_reducible refine gate_callee (f := 42) rfl ?_); refine gL_ (some 25) Try.func42 #[.agg #[.slice A0_0 l0_0.length c0_0, .slice A0_1 l0_1.length c0_1, .int .u64 a0_2, .slice A0_3 l0_3.length c0_3], .int .u32 a1, .int .i64 (wrap64 (a2))] ?_; (with_reducible refine (gmem_read.calls _ _ l0_0 _ _ l0_1 a0_2 _ _ l0_3 a1 (wrap64 (a2)) t148 _ ?side1 ?side2 ?side3 ?side4 ?side5 ?side6 A11.out).mono ?_); (case side1 => exact Kd.C_below HR0_0.out beT_); (case side2 => exact HC0_0.out); (case side3 => exact Kd.C_below HR0_1.out beT_); (case side4 => exact HC0_1.out); (case side5 => exact Kd.C_below HR0_3.out beT_); (case side6 => exact HC0_3.out); rintro e w22 ⟨rfl, hb⟩; refine ⟨_, rfl, ?_⟩; replace BK143 := kB_ BK143 hb; replace BK144 := kB_ BK144 hb; replace BK147 := Aside0.mk (blk_below (g := gb147) (o := .cells #[.int .i64 t145, .int .u64 t146] 34 (0, 0)) (kP_ BK147.out) hb); replace HB := hB_ hb; (try clear hb); (try clear hb2); (try clear hk); (try clear hi); obtain ⟨hcz23_0, hcz23_1, hfz23_0, hfz23_1⟩ := b2_ BK144.out))
    refine bodyPost_ret (results_tc rfl _ _ gb144 34 #[.int .i64 0, .int .u64 0] (0, 0) _ rfl (kP_ BK144.out) Try.underlying34 rfl (by kernel_rfl)) rfl ?_
    exact ⟨r3_, beT_⟩
  rw [if_neg c10] at H
  have c10b0 : (t145 == 0) = false := beq_eq_false_iff_ne.mpr c10
  have c10b1 : (t145 != 0) = true := bne_iff_ne.mpr c10
  simp only [Option.some.injEq, Prod.mk.injEq] at H
  obtain ⟨rfl, rfl, rfl⟩ := H
  go_enter Try.func13, Try.ntmps13
  try go_wp2_with (first | ((with_reducible refine gate_dst (N := 3) rfl ?_); refine bE_ 3 #[.slice A0_0 l0_0.length c0_0, .slice A0_1 l0_1.length c0_1, .int .u64 a0_2, .slice A0_3 l0_3.length c0_3] 29 ?_; intro gb143 hg w24 hbox hb; have BK143 := Aside0.mk hbox; have GW143 := geT_ w.heap.size hg; have GE143 := geT_ w.heap.size hg; replace HB := hB_ hb; clear hb hbox hg) | ((with_reducible refine gate_dst (N := 7) rfl ?_); refine bE_ 7 #[.int .i64 0, .int .u64 0] 34 ?_; intro gb144 hg w25 hbox hb; have BK144 := Aside0.mk hbox; have GW144 := geT_ w.heap.size hg; have GE144 := geT_ w.heap.size hg; have NB143_144 := nlT_ BK143.out hg; have NB144_143 := ngT_ BK143.out hg; replace BK143 := kB_ BK143 hb; replace HB := hB_ hb; clear hb hbox hg; have hnb26 := NB143_144.out; have hnc26 := NB144_143.out; obtain ⟨hcz27_0, hcz27_1, hcz27_2, hcz27_3, hfz27_0, hfz27_1, hfz27_2, hfz27_3⟩ := b4_ BK143.out) | ((with_reducible refine gate_callee (f := 41) rfl ?_); refine gL_ (some 16) Try.func41 #[.agg #[.slice A0_0 l0_0.length c0_0, .slice A0_1 l0_1.length c0_1, .int .u64 a0_2, .slice A0_3 l0_3.length c0_3], .int .u32 a1, .int .i64 (wrap64 (a2)), .int .i64 1] ?_; (with_reducible refine (gmem_first.calls _ _ l0_0 _ _ l0_1 a0_2 _ _ l0_3 a1 (wrap64 (a2)) 1 t145 t146 _ ?side1 ?side2 ?side3 ?side4 ?side5 ?side6 A9.out).mono ?_); (case side1 => exact cT_ (Kd.C_below HR0_0.out HB.out)); (case side2 => exact HC0_0.out); (case side3 => exact cT_ (Kd.C_below HR0_1.out HB.out)); (case side4 => exact HC0_1.out); (case side5 => exact cT_ (Kd.C_below HR0_3.out HB.out)); (case side6 => exact HC0_3.out); rintro e w28 ⟨rfl, hb⟩; refine ⟨_, rfl, ?_⟩; replace BK143 := kB_ BK143 hb; replace BK144 := kB_ BK144 hb; replace HB := hB_ hb; (try clear hb); (try clear hb2); (try clear hk); (try clear hi)) | ((with_reducible refine gate_dst (N := 8) rfl ?_); refine bE_ 8 #[.int .i64 0, .int .u64 0] 34 ?_; intro gb147 hg w29 hbox hb; have BK147 := Aside0.mk hbox; have GW147 := geT_ w.heap.size hg; have GE147 := geT_ w.heap.size hg; have NB143_147 := nlT_ BK143.out hg; have NB147_143 := ngT_ BK143.out hg; have NB144_147 := nlT_ BK144.out hg; have NB147_144 := ngT_ BK144.out hg; replace BK143 := kB_ BK143 hb; replace BK144 := kB_ BK144 hb; replace HB := hB_ hb; clear hb hbox hg; have hnb30 := NB147_143.out; have hnc30 := NB143_147.out; have hnb31 := NB147_144.out; have hnc31 := NB144_147.out; obtain ⟨hcz32_0, hcz32_1, hfz32_0, hfz32_1⟩ := b2_ BK147.out))
  have n0_ : Aside0 (((w29.setCell ⟨gb147, 0, none⟩ (.int .i64 t145)).setCell ⟨gb147, 1, none⟩ (.int .u64 t146)).heap[gb143]? = some (.cells #[.slice A0_0 l0_0.length c0_0, .slice A0_1 l0_1.length c0_1, .int .u64 a0_2, .slice A0_3 l0_3.length c0_3] 29 (0, 0))) := ⟨bfT_ BK143.out⟩
  have n1_ : Aside0 (((w29.setCell ⟨gb147, 0, none⟩ (.int .i64 t145)).setCell ⟨gb147, 1, none⟩ (.int .u64 t146)).heap[gb144]? = some (.cells #[.int .i64 0, .int .u64 0] 34 (0, 0))) := ⟨bfT_ BK144.out⟩
  have n2_ : Aside0 (((w29.setCell ⟨gb147, 0, none⟩ (.int .i64 t145)).setCell ⟨gb147, 1, none⟩ (.int .u64 t146)).heap[gb147]? = some (.cells #[.int .i64 t145, .int .u64 t146] 34 (0, 0))) := ⟨kP_ BK147.out⟩
  have n3_ : Aside0 (Below w.heap.size w ((w29.setCell ⟨gb147, 0, none⟩ (.int .i64 t145)).setCell ⟨gb147, 1, none⟩ (.int .u64 t146))) := ⟨beT_⟩
  (try clear BK143)
  (try clear BK144)
  (try clear BK147)
  (try clear HB)
  generalize ((w29.setCell ⟨gb147, 0, none⟩ (.int .i64 t145)).setCell ⟨gb147, 1, none⟩ (.int .u64 t146)) = w33 at n0_ n1_ n2_ n3_ ⊢
  have BK143 := n0_
  have BK144 := n1_
  have BK147 := n2_
  have HB := n3_
  clear n0_ n1_ n2_ n3_
  replace BK143 := Aside0.mk (blk_drew BK143.out)
  replace BK144 := Aside0.mk (blk_drew BK144.out)
  replace BK147 := Aside0.mk (blk_drew BK147.out)
  replace HB := Aside0.mk (below_drew1 HB.out)
  refine start_ (n := 3) (S := fun w' => w'.cell? ⟨gb147, 0, none⟩ = some (.int .i64 t145) ∧ w'.cell? ⟨gb147, 1, none⟩ = some (.int .u64 t146)) (ds := []) (mb_ 3 0) (by kernel_rfl) rfl rfl ⟨(blk_cell BK147.out 0).trans rfl, (blk_cell BK147.out 1).trans rfl⟩ (fun hHeld => ?_)
  generalize w33.drew = w34 at BK143 BK144 BK147 HB hHeld ⊢
  refine pure_ (i := 1) (N := some 6) (v := ?_) (a' := ?_) (mb_ 3 2) rfl rfl (by kernel_rfl) (fun _ _ _ h => h) (Or.inl ⟨by rfl, ?_⟩) ?_ ?_
  rotate_left
  · intro w'
    go_simp
    with_reducible rfl
  rotate_left
  · simp only [Act.put, List.setIfInBounds_toArray, List.set_cons_zero, List.set_cons_succ, i64_w, i32_w]
    rfl
  refine take_ (i := 0) (N := some 20) (v := ?_) (a' := ?_) (mb_ 3 3) rfl rfl (by kernel_rfl) (fun _ _ _ h => h) (Or.inl ⟨by rfl, ?_⟩) hHeld ?_ ?_
  rotate_left
  · rintro w' ⟨s0, s1⟩
    go_simp
    with_reducible rfl
  rotate_left
  · simp only [Act.put, List.setIfInBounds_toArray, List.set_cons_zero, List.set_cons_succ, i64_w, i32_w]
    rfl
  refine one_ (i := 2) (N := none) (mb_ 3 7) rfl rfl (by kernel_rfl) (by decide) (fun K hK => ?_)
  have hs35 : w34.cell? ⟨gb144, 0, none⟩ = some (.int .i64 0) := (blk_cell BK144.out 0).trans rfl
  have hfs35 := blk_frozen BK144.out 0
  have hns35_0 := NB143_144.out
  have hns35_2 := NB147_144.out
  have hms35_0 := NB144_143.out
  have hms35_2 := NB144_147.out
  have hs36 : w34.cell? ⟨gb144, 1, none⟩ = some (.int .u64 0) := (blk_cell BK144.out 1).trans rfl
  have hfs36 := blk_frozen BK144.out 1
  have hns36_0 := NB143_144.out
  have hns36_2 := NB147_144.out
  have hms36_0 := NB144_143.out
  have hms36_2 := NB144_147.out
  refine skip_ (w1 := ?_) (by rfl) rfl ?_ ?_
  rotate_left
  · go_simp
    rfl
  refine hK.out _ _ ⟨((cell_far (p := ⟨gb144, _, none⟩) NB147_144.out _).trans (((cell_far (p := ⟨gb144, _, none⟩) NB147_144.out _).trans (hHeld.1)))), ((cell_far (p := ⟨gb144, _, none⟩) NB147_144.out _).trans (((cell_far (p := ⟨gb144, _, none⟩) NB147_144.out _).trans (hHeld.2))))⟩ (fun hHeld => ?_)
  clear hK K
  refine done_ (by kernel_rfl) ?_
  try go_wp2
  refine bodyPost_ret (results_tc rfl _ _ gb144 34 #[.int .i64 t145, .int .u64 t146] (0, 0) _ rfl (kP_ BK144.out) Try.underlying34 rfl (by kernel_rfl)) rfl ?_
  exact ⟨r3_, beT_⟩

end Go.Proofs.Ytgkjdpdmmlalcaa.F
end
section
namespace Go.Proofs.Ytgkjdpdmmlalcaa.F
open Go.RowKit Go.Proofs.YtgkjdpdmmlalcaaW.PrintWords Go.Proofs.YtgkjdpdmmlalcaaW.PrintLast Go.Proofs.YtgkjdpdmmlalcaaW.PrintMore
attribute [local go_sem] max2_int min2_int max_two min_two max_three min_three max_four min_four
set_option linter.unusedVariables false
set_option linter.unusedSimpArgs false

def gmem_sized.f (a0 : Int) : Option (Bool) := if a0 > 0 then (if a0 ≤ 8 then (some ((Go.bits .and .i64 a0 (wrap64 (a0 - 1))) == 0)) else (some false)) else (some false)
set_option maxHeartbeats 8000000 in
set_option maxRecDepth 100000 in
theorem gmem_sized.calls (a0 : Int) (r : Bool) (w : World) (h : gmem_sized.f a0 = some r) :
    Calls Try.prog 48 #[.int .i64 a0] w fun e w' => e = .returned (.bool r) ∧ Drawn0 w w' := by
  have H : (if a0 > 0 then (if a0 ≤ 8 then (some ((Go.bits .and .i64 a0 (wrap64 (a0 - 1))) == 0)) else (some false)) else (some false)) = some r := h
  clear h
  by_cases c2 : a0 > 0
  · rw [if_pos c2] at H
    have c2b0 : decide (0 < a0) = true := decide_eq_true c2
    clear c2
    by_cases c3 : a0 ≤ 8
    · rw [if_pos c3] at H
      have c3b0 : decide (a0 ≤ 8) = true := decide_eq_true c3
      clear c3
      obtain rfl := Option.some.inj H
      go_enter Try.func48, Try.ntmps48
      go_wp2
      go_ret
      exact ⟨by first | rfl | (simp; done) | (simp [*]; done), by repeat (first | exact Drawn0.refl _ | apply Drawn0.step)⟩
    rw [if_neg c3] at H
    have c3b0 : decide (a0 ≤ 8) = false := decide_eq_false c3
    clear c3
    obtain rfl := Option.some.inj H
    go_enter Try.func48, Try.ntmps48
    go_wp2
    go_ret
    exact ⟨by first | rfl | (simp; done) | (simp [*]; done), by repeat (first | exact Drawn0.refl _ | apply Drawn0.step)⟩
  rw [if_neg c2] at H
  have c2b0 : decide (0 < a0) = false := decide_eq_false c2
  clear c2
  obtain rfl := Option.some.inj H
  go_enter Try.func48, Try.ntmps48
  go_wp2
  go_ret
  exact ⟨by first | rfl | (simp; done) | (simp [*]; done), by repeat (first | exact Drawn0.refl _ | apply Drawn0.step)⟩

end Go.Proofs.Ytgkjdpdmmlalcaa.F
end
section
namespace Go.Proofs.Ytgkjdpdmmlalcaa.F
open Go.RowKit Go.Proofs.YtgkjdpdmmlalcaaW.PrintWords Go.Proofs.YtgkjdpdmmlalcaaW.PrintLast Go.Proofs.YtgkjdpdmmlalcaaW.PrintMore
attribute [local go_sem] max2_int min2_int max_two min_two max_three min_three max_four min_four
attribute [local go_sem] u32w
attribute [local go_sem] cell_twice
set_option linter.unusedVariables false
set_option linter.unusedSimpArgs false

def gmem_Load.f (l0_0 : List (S83)) (l0_1 : List (S88)) (a0_2 : Int) (l0_3 : List (S41)) (a1 : Int) (a2 : Int) : Option (Int × Int × Int) := (gmem_sized.f a2).bind fun t152 => (if t152 = true then ((gmem_Bytes.f l0_0 l0_1 a0_2 l0_3 a1 ((a2) % 4294967296)).bind fun bt153 => ((swap_Be.f bt153.1).bind fun t157 => (some (t157, bt153.2.1, bt153.2.2)))) else (some (0, 0, 0)))
set_option maxHeartbeats 8000000 in
set_option maxRecDepth 100000 in
theorem gmem_Load.calls (A0_0 : Option Addr) (c0_0 : Nat) (l0_0 : List (S83)) (A0_1 : Option Addr) (c0_1 : Nat) (l0_1 : List (S88)) (a0_2 : Int) (A0_3 : Option Addr) (c0_3 : Nat) (l0_3 : List (S41)) (a1 : Int) (a2 : Int) (r1 : Int) (r2 : Int) (r3 : Int) (w : World) (hr0_0 : Kd.C k83 w A0_0 l0_0.length l0_0) (hc0_0 : l0_0.length ≤ c0_0) (hr0_1 : Kd.C k88 w A0_1 l0_1.length l0_1) (hc0_1 : l0_1.length ≤ c0_1) (hr0_3 : Kd.C k41 w A0_3 l0_3.length l0_3) (hc0_3 : l0_3.length ≤ c0_3) (h : gmem_Load.f l0_0 l0_1 a0_2 l0_3 a1 a2 = some (r1, r2, r3)) :
    Calls Try.prog 17 #[.agg #[.slice A0_0 l0_0.length c0_0, .slice A0_1 l0_1.length c0_1, .int .u64 a0_2, .slice A0_3 l0_3.length c0_3], .int .u32 a1, .int .i64 a2] w fun e w' => e = .returned (.tuple #[.int .u64 r1, .agg #[.int .i64 r2, .int .u64 r3]]) ∧ Below w.heap.size w w' := by
  have hu29 := Try.underlying29
  have hu34 := Try.underlying34
  have HR0_0 := Aside0.mk hr0_0
  have HC0_0 := Aside0.mk hc0_0
  clear hr0_0 hc0_0
  have HR0_1 := Aside0.mk hr0_1
  have HC0_1 := Aside0.mk hc0_1
  clear hr0_1 hc0_1
  have HR0_3 := Aside0.mk hr0_3
  have HC0_3 := Aside0.mk hc0_3
  clear hr0_3 hc0_3
  have HB := Aside0.mk (Below.refl w.heap.size w)
  have H : ((gmem_sized.f a2).bind fun t152 => (if t152 = true then ((gmem_Bytes.f l0_0 l0_1 a0_2 l0_3 a1 ((a2) % 4294967296)).bind fun bt153 => ((swap_Be.f bt153.1).bind fun t157 => (some (t157, bt153.2.1, bt153.2.2)))) else (some (0, 0, 0)))) = some (r1, r2, r3) := h
  clear h
  replace H := Option.bind_eq_some_iff.mp H
  obtain ⟨t152, A40, H⟩ := H
  have A4 := Aside0.mk A40
  clear A40
  by_cases c5 : t152 = true
  · subst c5
    replace H := hP_ H
    replace H := Option.bind_eq_some_iff.mp H
    obtain ⟨⟨t153, t154, t155⟩, A60, H⟩ := H
    have A6 := Aside0.mk A60
    clear A60
    replace H := Option.bind_eq_some_iff.mp H
    obtain ⟨t157, A70, H⟩ := H
    have A7 := Aside0.mk A70
    clear A70
    simp only [Option.some.injEq, Prod.mk.injEq] at H
    obtain ⟨rfl, rfl, rfl⟩ := H
    go_enter Try.func17, Try.ntmps17
    try go_wp2_with (first | ((with_reducible refine gate_dst (N := 3) rfl ?_); refine bE_ 3 #[.slice A0_0 l0_0.length c0_0, .slice A0_1 l0_1.length c0_1, .int .u64 a0_2, .slice A0_3 l0_3.length c0_3] 29 ?_; intro gb150 hg w8 hbox hb; have BK150 := Aside0.mk hbox; have GW150 := geT_ w.heap.size hg; have GE150 := geT_ w.heap.size hg; replace HB := hB_ hb; clear hb hbox hg) | ((with_reducible refine gate_dst (N := 7) rfl ?_); refine bE_ 7 #[.int .i64 0, .int .u64 0] 34 ?_; intro gb151 hg w9 hbox hb; have BK151 := Aside0.mk hbox; have GW151 := geT_ w.heap.size hg; have GE151 := geT_ w.heap.size hg; have NB150_151 := nlT_ BK150.out hg; have NB151_150 := ngT_ BK150.out hg; replace BK150 := kB_ BK150 hb; replace HB := hB_ hb; clear hb hbox hg) | ((with_reducible refine gate_callee (f := 48) rfl ?_); refine gL_ (some 11) Try.func48 #[.int .i64 a2] ?_; (with_reducible refine (gmem_sized.calls a2 true _ A4.out).mono ?_); rintro e w' ⟨rfl, ⟨nd, rfl⟩⟩; refine ⟨_, rfl, ?_⟩; (try (rw [drewN_self w9]; generalize hq_ : World.drewN w9 _ = w9; replace BK150 : Aside0 (w9.heap[gb150]? = some (.cells #[.slice A0_0 l0_0.length c0_0, .slice A0_1 l0_1.length c0_1, .int .u64 a0_2, .slice A0_3 l0_3.length c0_3] 29 (0, 0))) := ⟨by rw [← hq_]; exact (bT_ BK150.out)⟩; replace BK151 : Aside0 (w9.heap[gb151]? = some (.cells #[.int .i64 0, .int .u64 0] 34 (0, 0))) := ⟨by rw [← hq_]; exact (bT_ BK151.out)⟩; replace HB : Aside0 (Below w.heap.size w w9) := ⟨by rw [← hq_]; exact beT_⟩; clear hq_)); have hnb10 := NB150_151.out; have hnc10 := NB151_150.out; obtain ⟨hcz11_0, hcz11_1, hcz11_2, hcz11_3, hfz11_0, hfz11_1, hfz11_2, hfz11_3⟩ := b4_ BK150.out) | ((with_reducible refine gate_callee (f := 13) rfl ?_); refine gL_ (some 19) Try.func13 #[.agg #[.slice A0_0 l0_0.length c0_0, .slice A0_1 l0_1.length c0_1, .int .u64 a0_2, .slice A0_3 l0_3.length c0_3], .int .u32 a1, .int .u32 ((a2) % 4294967296)] ?_; (with_reducible refine (gmem_Bytes.calls _ _ l0_0 _ _ l0_1 a0_2 _ _ l0_3 a1 ((a2) % 4294967296) t153 t154 t155 _ ?side1 ?side2 ?side3 ?side4 ?side5 ?side6 A6.out).mono ?_); (case side1 => exact cT_ (Kd.C_below HR0_0.out HB.out)); (case side2 => exact HC0_0.out); (case side3 => exact cT_ (Kd.C_below HR0_1.out HB.out)); (case side4 => exact HC0_1.out); (case side5 => exact cT_ (Kd.C_below HR0_3.out HB.out)); (case side6 => exact HC0_3.out); rintro e w12 ⟨rfl, hb⟩; refine ⟨_, rfl, ?_⟩; replace BK150 := kB_ BK150 hb; replace BK151 := kB_ BK151 hb; replace HB := hB_ hb; (try clear hb); (try clear hb2); (try clear hk); (try clear hi)) | ((with_reducible refine gate_dst (N := 9) rfl ?_); refine bE_ 9 #[.int .i64 0, .int .u64 0] 34 ?_; intro gb156 hg w13 hbox hb; have BK156 := Aside0.mk hbox; have GW156 := geT_ w.heap.size hg; have GE156 := geT_ w.heap.size hg; have NB150_156 := nlT_ BK150.out hg; have NB156_150 := ngT_ BK150.out hg; have NB151_156 := nlT_ BK151.out hg; have NB156_151 := ngT_ BK151.out hg; replace BK150 := kB_ BK150 hb; replace BK151 := kB_ BK151 hb; replace HB := hB_ hb; clear hb hbox hg; have hnb14 := NB156_150.out; have hnc14 := NB150_156.out; have hnb15 := NB156_151.out; have hnc15 := NB151_156.out; obtain ⟨hcz16_0, hcz16_1, hfz16_0, hfz16_1⟩ := b2_ BK156.out))
    have n0_ : Aside0 (((w13.setCell ⟨gb156, 0, none⟩ (.int .i64 t154)).setCell ⟨gb156, 1, none⟩ (.int .u64 t155)).heap[gb150]? = some (.cells #[.slice A0_0 l0_0.length c0_0, .slice A0_1 l0_1.length c0_1, .int .u64 a0_2, .slice A0_3 l0_3.length c0_3] 29 (0, 0))) := ⟨bfT_ BK150.out⟩
    have n1_ : Aside0 (((w13.setCell ⟨gb156, 0, none⟩ (.int .i64 t154)).setCell ⟨gb156, 1, none⟩ (.int .u64 t155)).heap[gb151]? = some (.cells #[.int .i64 0, .int .u64 0] 34 (0, 0))) := ⟨bfT_ BK151.out⟩
    have n2_ : Aside0 (((w13.setCell ⟨gb156, 0, none⟩ (.int .i64 t154)).setCell ⟨gb156, 1, none⟩ (.int .u64 t155)).heap[gb156]? = some (.cells #[.int .i64 t154, .int .u64 t155] 34 (0, 0))) := ⟨kP_ BK156.out⟩
    have n3_ : Aside0 (Below w.heap.size w ((w13.setCell ⟨gb156, 0, none⟩ (.int .i64 t154)).setCell ⟨gb156, 1, none⟩ (.int .u64 t155))) := ⟨beT_⟩
    (try clear BK150)
    (try clear BK151)
    (try clear BK156)
    (try clear HB)
    generalize ((w13.setCell ⟨gb156, 0, none⟩ (.int .i64 t154)).setCell ⟨gb156, 1, none⟩ (.int .u64 t155)) = w17 at n0_ n1_ n2_ n3_ ⊢
    have BK150 := n0_
    have BK151 := n1_
    have BK156 := n2_
    have HB := n3_
    clear n0_ n1_ n2_ n3_
    replace BK150 := Aside0.mk (blk_drew BK150.out)
    replace BK151 := Aside0.mk (blk_drew BK151.out)
    replace BK156 := Aside0.mk (blk_drew BK156.out)
    replace HB := Aside0.mk (below_drew1 HB.out)
    refine start_ (n := 5) (S := fun w' => w'.cell? ⟨gb156, 0, none⟩ = some (.int .i64 t154) ∧ w'.cell? ⟨gb156, 1, none⟩ = some (.int .u64 t155)) (ds := []) (mb_ 5 0) (by kernel_rfl) rfl rfl ⟨(blk_cell BK156.out 0).trans rfl, (blk_cell BK156.out 1).trans rfl⟩ (fun hHeld => ?_)
    generalize w17.drew = w18 at BK150 BK151 BK156 HB hHeld ⊢
    refine pure_ (i := 0) (N := some 22) (v := ?_) (a' := ?_) (mb_ 5 1) rfl rfl (by kernel_rfl) (fun _ _ _ h => h) (Or.inl ⟨by rfl, ?_⟩) ?_ ?_
    rotate_left
    · intro w'
      go_simp
      with_reducible rfl
    rotate_left
    · simp only [Act.put, List.setIfInBounds_toArray, List.set_cons_zero, List.set_cons_succ, i64_w, i32_w]
      rfl
    refine take_ (i := 2) (N := some 24) (v := ?_) (a' := ?_) (mb_ 5 5) rfl rfl (by kernel_rfl) (fun _ _ _ h => h) (Or.inl ⟨by rfl, ?_⟩) hHeld ?_ ?_
    rotate_left
    · rintro w' ⟨s0, s1⟩
      go_simp
      with_reducible rfl
    rotate_left
    · simp only [Act.put, List.setIfInBounds_toArray, List.set_cons_zero, List.set_cons_succ, i64_w, i32_w]
      rfl
    refine one_ (i := 1) (N := some 23) (mb_ 5 7) rfl rfl (by kernel_rfl) (by decide) (fun K hK => ?_)
    refine goes_ Try.func49 (by kernel_rfl) rfl #[.string t153] (by rfl) rfl rfl aT_ ?_
    with_reducible refine (swap_Be.calls t153 t157 _ A7.out).mono ?_
    rintro e w19 ⟨rfl, hb⟩
    refine ⟨_, rfl, ?_⟩
    replace BK150 := kB_ BK150 hb
    replace BK151 := kB_ BK151 hb
    replace BK156 := kB_ BK156 hb
    replace HB := hB_ hb
    (try clear hb)
    (try clear hb2)
    (try clear hk)
    (try clear hi)
    refine hK.out _ _ ⟨(blk_cell BK156.out 0).trans rfl, (blk_cell BK156.out 1).trans rfl⟩ (fun hHeld => ?_)
    clear hK K
    refine nS_ ?_
    refine pure_ (i := 3) (N := some 6) (v := ?_) (a' := ?_) (mb_ 5 15) rfl rfl (by kernel_rfl) (fun _ _ _ h => h) (Or.inl ⟨by rfl, ?_⟩) ?_ ?_
    rotate_left
    · intro w'
      go_simp
      with_reducible rfl
    rotate_left
    · simp only [Act.put, List.setIfInBounds_toArray, List.set_cons_zero, List.set_cons_succ, i64_w, i32_w]
      rfl
    refine one_ (i := 4) (N := none) (mb_ 5 31) rfl rfl (by kernel_rfl) (by decide) (fun K hK => ?_)
    have hs20 : w19.cell? ⟨gb151, 0, none⟩ = some (.int .i64 0) := (blk_cell BK151.out 0).trans rfl
    have hfs20 := blk_frozen BK151.out 0
    have hns20_0 := NB150_151.out
    have hns20_2 := NB156_151.out
    have hms20_0 := NB151_150.out
    have hms20_2 := NB151_156.out
    have hs21 : w19.cell? ⟨gb151, 1, none⟩ = some (.int .u64 0) := (blk_cell BK151.out 1).trans rfl
    have hfs21 := blk_frozen BK151.out 1
    have hns21_0 := NB150_151.out
    have hns21_2 := NB156_151.out
    have hms21_0 := NB151_150.out
    have hms21_2 := NB151_156.out
    refine skip_ (w1 := ?_) (by rfl) rfl ?_ ?_
    rotate_left
    · go_simp
      rfl
    refine hK.out _ _ ⟨((cell_far (p := ⟨gb151, _, none⟩) NB156_151.out _).trans (((cell_far (p := ⟨gb151, _, none⟩) NB156_151.out _).trans (hHeld.1)))), ((cell_far (p := ⟨gb151, _, none⟩) NB156_151.out _).trans (((cell_far (p := ⟨gb151, _, none⟩) NB156_151.out _).trans (hHeld.2))))⟩ (fun hHeld => ?_)
    clear hK K
    refine done_ (by kernel_rfl) ?_
    try go_wp2
    refine bodyPost_ret (results_tc rfl _ _ gb151 34 #[.int .i64 t154, .int .u64 t155] (0, 0) _ rfl (kP_ BK151.out) Try.underlying34 rfl (by kernel_rfl)) rfl ?_
    exact ⟨r3_, beT_⟩
  replace c5 := Bool.eq_false_iff.mpr c5
  subst c5
  replace H := hN_ H
  simp only [Option.some.injEq, Prod.mk.injEq] at H
  obtain ⟨rfl, rfl, rfl⟩ := H
  go_enter Try.func17, Try.ntmps17
  go_wp2_with (first | ((with_reducible refine gate_dst (N := 3) rfl ?_); refine bE_ 3 #[.slice A0_0 l0_0.length c0_0, .slice A0_1 l0_1.length c0_1, .int .u64 a0_2, .slice A0_3 l0_3.length c0_3] 29 ?_; intro gb150 hg w22 hbox hb; have BK150 := Aside0.mk hbox; have GW150 := geT_ w.heap.size hg; have GE150 := geT_ w.heap.size hg; replace HB := hB_ hb; clear hb hbox hg) | ((with_reducible refine gate_dst (N := 7) rfl ?_); refine bE_ 7 #[.int .i64 0, .int .u64 0] 34 ?_; intro gb151 hg w23 hbox hb; have BK151 := Aside0.mk hbox; have GW151 := geT_ w.heap.size hg; have GE151 := geT_ w.heap.size hg; have NB150_151 := nlT_ BK150.out hg; have NB151_150 := ngT_ BK150.out hg; replace BK150 := kB_ BK150 hb; replace HB := hB_ hb; clear hb hbox hg) | ((with_reducible refine gate_callee (f := 48) rfl ?_); refine gL_ (some 11) Try.func48 #[.int .i64 a2] ?_; (with_reducible refine (gmem_sized.calls a2 false _ A4.out).mono ?_); rintro e w' ⟨rfl, ⟨nd, rfl⟩⟩; refine ⟨_, rfl, ?_⟩; (try (rw [drewN_self w23]; generalize hq_ : World.drewN w23 _ = w23; replace BK150 : Aside0 (w23.heap[gb150]? = some (.cells #[.slice A0_0 l0_0.length c0_0, .slice A0_1 l0_1.length c0_1, .int .u64 a0_2, .slice A0_3 l0_3.length c0_3] 29 (0, 0))) := ⟨by rw [← hq_]; exact (bT_ BK150.out)⟩; replace BK151 : Aside0 (w23.heap[gb151]? = some (.cells #[.int .i64 0, .int .u64 0] 34 (0, 0))) := ⟨by rw [← hq_]; exact (bT_ BK151.out)⟩; replace HB : Aside0 (Below w.heap.size w w23) := ⟨by rw [← hq_]; exact beT_⟩; clear hq_)); have hnb24 := NB151_150.out; have hnc24 := NB150_151.out; obtain ⟨hcz25_0, hcz25_1, hfz25_0, hfz25_1⟩ := b2_ BK151.out))
  refine bodyPost_ret (results_tc rfl _ _ gb151 34 #[.int .i64 0, .int .u64 0] (0, 0) _ rfl (kP_ BK151.out) Try.underlying34 rfl (by kernel_rfl)) rfl ?_
  exact ⟨r3_, beT_⟩

end Go.Proofs.Ytgkjdpdmmlalcaa.F
end
section
namespace Go.Proofs.Ytgkjdpdmmlalcaa.F
open Go.RowKit Go.Proofs.YtgkjdpdmmlalcaaW.PrintWords Go.Proofs.YtgkjdpdmmlalcaaW.PrintLast Go.Proofs.YtgkjdpdmmlalcaaW.PrintMore
attribute [local go_sem] max2_int min2_int max_two min_two max_three min_three max_four min_four
set_option linter.unusedVariables false
set_option linter.unusedSimpArgs false

def ferryref05_sized.f (a0 : Int) : Option (Bool) := if a0 = 1 then (some true) else (if a0 = 2 then (some true) else (if a0 = 4 then (some true) else (some (a0 == 8))))
set_option maxHeartbeats 8000000 in
set_option maxRecDepth 100000 in
theorem ferryref05_sized.calls (a0 : Int) (r : Bool) (w : World) (h : ferryref05_sized.f a0 = some r) :
    Calls Try.prog 52 #[.int .i64 a0] w fun e w' => e = .returned (.bool r) ∧ Drawn0 w w' := by
  have H : (if a0 = 1 then (some true) else (if a0 = 2 then (some true) else (if a0 = 4 then (some true) else (some (a0 == 8))))) = some r := h
  clear h
  by_cases c2 : a0 = 1
  · rw [if_pos c2] at H
    have c2b0 : (a0 == 1) = true := beq_iff_eq.mpr c2
    have c2b1 : (a0 != 1) = false := bne_eq_false_iff_eq.mpr c2
    clear c2
    obtain rfl := Option.some.inj H
    go_enter Try.func52, Try.ntmps52
    go_wp2
    go_ret
    exact ⟨by first | rfl | (simp; done) | (simp [*]; done), by repeat (first | exact Drawn0.refl _ | apply Drawn0.step)⟩
  rw [if_neg c2] at H
  have c2b0 : (a0 == 1) = false := beq_eq_false_iff_ne.mpr c2
  have c2b1 : (a0 != 1) = true := bne_iff_ne.mpr c2
  by_cases c3 : a0 = 2
  · rw [if_pos c3] at H
    have c3b0 : (a0 == 2) = true := beq_iff_eq.mpr c3
    have c3b1 : (a0 != 2) = false := bne_eq_false_iff_eq.mpr c3
    clear c3
    obtain rfl := Option.some.inj H
    go_enter Try.func52, Try.ntmps52
    go_wp2
    go_ret
    exact ⟨by first | rfl | (simp; done) | (simp [*]; done), by repeat (first | exact Drawn0.refl _ | apply Drawn0.step)⟩
  rw [if_neg c3] at H
  have c3b0 : (a0 == 2) = false := beq_eq_false_iff_ne.mpr c3
  have c3b1 : (a0 != 2) = true := bne_iff_ne.mpr c3
  by_cases c4 : a0 = 4
  · rw [if_pos c4] at H
    have c4b0 : (a0 == 4) = true := beq_iff_eq.mpr c4
    have c4b1 : (a0 != 4) = false := bne_eq_false_iff_eq.mpr c4
    clear c4
    obtain rfl := Option.some.inj H
    go_enter Try.func52, Try.ntmps52
    go_wp2
    go_ret
    exact ⟨by first | rfl | (simp; done) | (simp [*]; done), by repeat (first | exact Drawn0.refl _ | apply Drawn0.step)⟩
  rw [if_neg c4] at H
  have c4b0 : (a0 == 4) = false := beq_eq_false_iff_ne.mpr c4
  have c4b1 : (a0 != 4) = true := bne_iff_ne.mpr c4
  obtain rfl := Option.some.inj H
  go_enter Try.func52, Try.ntmps52
  go_wp2
  go_ret
  exact ⟨by first | rfl | (simp; done) | (simp [*]; done), by repeat (first | exact Drawn0.refl _ | apply Drawn0.step)⟩

end Go.Proofs.Ytgkjdpdmmlalcaa.F
end
section
namespace Go.Proofs.Ytgkjdpdmmlalcaa.F
open Go.RowKit Go.Shelf Go.Proofs.YtgkjdpdmmlalcaaW.PrintWords Go.Proofs.YtgkjdpdmmlalcaaW.PrintLast Go.Proofs.YtgkjdpdmmlalcaaW.PrintMore
set_option linter.unusedVariables false
set_option linter.unusedSimpArgs false
section
variable {l : List SM} {m : List SC} {b : Int} {p : List SP}
theorem FitG.lenP (h : FitG l m b p) : p.length ≤ 1000000 := Nat.le_trans h.pages.pn (by decide)
theorem mapd_all {a n need : Int} (h : FitG l m b p) (a0 : 0 ≤ a) (hz : ∀ x ∈ spanL a n, kindS p need x = 0) : ∀ x ∈ spanL a n, Mapd p x := fun x hx => mapd_of h.pages (by have := spanL_mem.1 hx; omega) (hz x hx)
def sizedB (n : Int) : Bool := decide (n = 1 ∨ n = 2 ∨ n = 4 ∨ n = 8)
theorem sized_f (n : Int) (h0 : -9223372036854775808 ≤ n) (h1 : n ≤ 9223372036854775807) : gmem_sized.f n = some (sizedB n) := by
  unfold gmem_sized.f sizedB
  by_cases c : n > 0
  · rw [if_pos c]
    by_cases c2 : n ≤ 8
    · rw [if_pos c2]
      have hq : n = 1 ∨ n = 2 ∨ n = 3 ∨ n = 4 ∨ n = 5 ∨ n = 6 ∨ n = 7 ∨ n = 8 := by omega
      rcases hq with rfl | rfl | rfl | rfl | rfl | rfl | rfl | rfl <;> decide +kernel
    rw [if_neg c2, decide_eq_false (by omega)]
  rw [if_neg c, decide_eq_false (by omega)]
theorem rsized_f (n : Int) : ferryref05_sized.f n = some (sizedB n) := by
  unfold ferryref05_sized.f sizedB
  by_cases c : n = 1
  · rw [if_pos c, decide_eq_true (.inl c)]
  rw [if_neg c]
  by_cases c2 : n = 2
  · rw [if_pos c2, decide_eq_true (.inr (.inl c2))]
  rw [if_neg c2]
  by_cases c3 : n = 4
  · rw [if_pos c3, decide_eq_true (.inr (.inr (.inl c3)))]
  rw [if_neg c3]
  congr 1
  by_cases c4 : n = 8
  · subst c4
    rfl
  rw [decide_eq_false (by omega)]
  simpa using c4
theorem sizedB_range {n : Int} (h : sizedB n = true) : 0 < n ∧ n ≤ 8 := by
  have := of_decide_eq_true h
  omega
end
end Go.Proofs.Ytgkjdpdmmlalcaa.F
end
section
namespace Go.Proofs.Ytgkjdpdmmlalcaa.F
open Go.RowKit Go.Proofs.YtgkjdpdmmlalcaaW.PrintWords Go.Proofs.YtgkjdpdmmlalcaaW.PrintLast Go.Proofs.YtgkjdpdmmlalcaaW.PrintMore
attribute [local go_sem] max2_int min2_int max_two min_two max_three min_three max_four min_four
set_option linter.unusedVariables false
set_option linter.unusedSimpArgs false

def ferrylaw05_few.f (k : Nat) (l0_0 : List (S83)) (l0_1 : List (S88)) (a0_2 : Int) (l0_3 : List (S41)) : Option (Bool) := if (l0_0.length : Int) ≤ 70 then (if (l0_1.length : Int) ≤ 100 then (if (l0_3.length : Int) ≤ 60 then ((ferryref04_Fit.f k l0_0 l0_1 a0_2 l0_3).bind fun t125 => (some t125)) else (some false)) else (some false)) else (some false)
set_option maxHeartbeats 8000000 in
set_option maxRecDepth 100000 in
theorem ferrylaw05_few.calls (k : Nat) (A0_0 : Option Addr) (c0_0 : Nat) (l0_0 : List (S83)) (A0_1 : Option Addr) (c0_1 : Nat) (l0_1 : List (S88)) (a0_2 : Int) (A0_3 : Option Addr) (c0_3 : Nat) (l0_3 : List (S41)) (r : Bool) (w : World) (hr0_0 : Kd.C k83 w A0_0 l0_0.length l0_0) (hc0_0 : l0_0.length ≤ c0_0) (hr0_1 : Kd.C k88 w A0_1 l0_1.length l0_1) (hc0_1 : l0_1.length ≤ c0_1) (hr0_3 : Kd.C k41 w A0_3 l0_3.length l0_3) (hc0_3 : l0_3.length ≤ c0_3) (h : ferrylaw05_few.f k l0_0 l0_1 a0_2 l0_3 = some r) :
    Calls Try.prog 9 #[.agg #[.slice A0_0 l0_0.length c0_0, .slice A0_1 l0_1.length c0_1, .int .u64 a0_2, .slice A0_3 l0_3.length c0_3]] w fun e w' => e = .returned (.bool r) ∧ Below w.heap.size w w' := by
  have hu29 := Try.underlying29
  have HR0_0 := Aside0.mk hr0_0
  have HC0_0 := Aside0.mk hc0_0
  clear hr0_0 hc0_0
  have HR0_1 := Aside0.mk hr0_1
  have HC0_1 := Aside0.mk hc0_1
  clear hr0_1 hc0_1
  have HR0_3 := Aside0.mk hr0_3
  have HC0_3 := Aside0.mk hc0_3
  clear hr0_3 hc0_3
  have HB := Aside0.mk (Below.refl w.heap.size w)
  have H : (if (l0_0.length : Int) ≤ 70 then (if (l0_1.length : Int) ≤ 100 then (if (l0_3.length : Int) ≤ 60 then ((ferryref04_Fit.f k l0_0 l0_1 a0_2 l0_3).bind fun t125 => (some t125)) else (some false)) else (some false)) else (some false)) = some r := h
  clear h
  by_cases c2 : (l0_0.length : Int) ≤ 70
  · rw [if_pos c2] at H
    have c2b0 : decide ((l0_0.length : Int) ≤ 70) = true := decide_eq_true c2
    have c2b1 : decide (l0_0.length ≤ 70) = true := decide_eq_true (by omega)
    clear c2
    by_cases c3 : (l0_1.length : Int) ≤ 100
    · rw [if_pos c3] at H
      have c3b0 : decide ((l0_1.length : Int) ≤ 100) = true := decide_eq_true c3
      have c3b1 : decide (l0_1.length ≤ 100) = true := decide_eq_true (by omega)
      clear c3
      by_cases c4 : (l0_3.length : Int) ≤ 60
      · rw [if_pos c4] at H
        have c4b0 : decide ((l0_3.length : Int) ≤ 60) = true := decide_eq_true c4
        have c4b1 : decide (l0_3.length ≤ 60) = true := decide_eq_true (by omega)
        clear c4
        replace H := Option.bind_eq_some_iff.mp H
        obtain ⟨t125, A50, H⟩ := H
        have A5 := Aside0.mk A50
        clear A50
        obtain rfl := Option.some.inj H
        go_enter Try.func9, Try.ntmps9
        go_wp2_with (first | ((with_reducible refine gate_dst (N := 1) rfl ?_); (try (refine gate_guard (by rfl) ?_; dsimp only)); refine bE_ 1 #[.slice A0_0 l0_0.length c0_0, .slice A0_1 l0_1.length c0_1, .int .u64 a0_2, .slice A0_3 l0_3.length c0_3] 29 ?_; intro gb124 hg w6 hbox hb; have BK124 := Aside0.mk hbox; have GW124 := geT_ w.heap.size hg; have GE124 := geT_ w.heap.size hg; replace HB := hB_ hb; clear hb hbox hg; obtain ⟨hcz7_0, hcz7_1, hcz7_2, hcz7_3, hfz7_0, hfz7_1, hfz7_2, hfz7_3⟩ := b4_ BK124.out) | (go_at_call 16; (with_reducible refine (ferryref04_Fit.calls k _ _ l0_0 _ _ l0_1 a0_2 _ _ l0_3 t125 _ ?side1 ?side2 ?side3 ?side4 ?side5 ?side6 A5.out).mono ?_); (case side1 => exact cT_ (Kd.C_below HR0_0.out HB.out)); (case side2 => exact HC0_0.out); (case side3 => exact cT_ (Kd.C_below HR0_1.out HB.out)); (case side4 => exact HC0_1.out); (case side5 => exact cT_ (Kd.C_below HR0_3.out HB.out)); (case side6 => exact HC0_3.out); rintro e w8 ⟨rfl, hb⟩; replace BK124 := kB_ BK124 hb; replace HB := hB_ hb; (try clear hb); (try clear hb2); (try clear hk); (try clear hi)))
        go_ret
        exact ⟨r3_, beT_⟩
      rw [if_neg c4] at H
      have c4b0 : decide ((l0_3.length : Int) ≤ 60) = false := decide_eq_false c4
      have c4b1 : decide (l0_3.length ≤ 60) = false := decide_eq_false (by omega)
      clear c4
      obtain rfl := Option.some.inj H
      go_enter Try.func9, Try.ntmps9
      go_wp2_with (first | ((with_reducible refine gate_dst (N := 1) rfl ?_); (try (refine gate_guard (by rfl) ?_; dsimp only)); refine bE_ 1 #[.slice A0_0 l0_0.length c0_0, .slice A0_1 l0_1.length c0_1, .int .u64 a0_2, .slice A0_3 l0_3.length c0_3] 29 ?_; intro gb124 hg w9 hbox hb; have BK124 := Aside0.mk hbox; have GW124 := geT_ w.heap.size hg; have GE124 := geT_ w.heap.size hg; replace HB := hB_ hb; clear hb hbox hg; obtain ⟨hcz10_0, hcz10_1, hcz10_2, hcz10_3, hfz10_0, hfz10_1, hfz10_2, hfz10_3⟩ := b4_ BK124.out))
      go_ret
      exact ⟨r3_, beT_⟩
    rw [if_neg c3] at H
    have c3b0 : decide ((l0_1.length : Int) ≤ 100) = false := decide_eq_false c3
    have c3b1 : decide (l0_1.length ≤ 100) = false := decide_eq_false (by omega)
    clear c3
    obtain rfl := Option.some.inj H
    go_enter Try.func9, Try.ntmps9
    go_wp2_with (first | ((with_reducible refine gate_dst (N := 1) rfl ?_); (try (refine gate_guard (by rfl) ?_; dsimp only)); refine bE_ 1 #[.slice A0_0 l0_0.length c0_0, .slice A0_1 l0_1.length c0_1, .int .u64 a0_2, .slice A0_3 l0_3.length c0_3] 29 ?_; intro gb124 hg w11 hbox hb; have BK124 := Aside0.mk hbox; have GW124 := geT_ w.heap.size hg; have GE124 := geT_ w.heap.size hg; replace HB := hB_ hb; clear hb hbox hg; obtain ⟨hcz12_0, hcz12_1, hcz12_2, hcz12_3, hfz12_0, hfz12_1, hfz12_2, hfz12_3⟩ := b4_ BK124.out))
    go_ret
    exact ⟨r3_, beT_⟩
  rw [if_neg c2] at H
  have c2b0 : decide ((l0_0.length : Int) ≤ 70) = false := decide_eq_false c2
  have c2b1 : decide (l0_0.length ≤ 70) = false := decide_eq_false (by omega)
  clear c2
  obtain rfl := Option.some.inj H
  go_enter Try.func9, Try.ntmps9
  go_wp2_with (first | ((with_reducible refine gate_dst (N := 1) rfl ?_); (try (refine gate_guard (by rfl) ?_; dsimp only)); refine bE_ 1 #[.slice A0_0 l0_0.length c0_0, .slice A0_1 l0_1.length c0_1, .int .u64 a0_2, .slice A0_3 l0_3.length c0_3] 29 ?_; intro gb124 hg w13 hbox hb; have BK124 := Aside0.mk hbox; have GW124 := geT_ w.heap.size hg; have GE124 := geT_ w.heap.size hg; replace HB := hB_ hb; clear hb hbox hg; obtain ⟨hcz14_0, hcz14_1, hcz14_2, hcz14_3, hfz14_0, hfz14_1, hfz14_2, hfz14_3⟩ := b4_ BK124.out))
  go_ret
  exact ⟨r3_, beT_⟩

end Go.Proofs.Ytgkjdpdmmlalcaa.F
end
section
namespace Go.Proofs.Ytgkjdpdmmlalcaa.F
open Go.RowKit Go.Proofs.YtgkjdpdmmlalcaaW.PrintWords Go.Proofs.YtgkjdpdmmlalcaaW.PrintLast Go.Proofs.YtgkjdpdmmlalcaaW.PrintMore
attribute [local go_sem] max2_int min2_int max_two min_two max_three min_three max_four min_four
set_option linter.unusedVariables false
set_option linter.unusedSimpArgs false

theorem eqA34 (d : Nat) (w : World) (x0 y0 : Int) (x1 y1 : Int) :
    (Op.equalIn (d + 2) 34 (.agg #[.int .i64 x0, .int .u64 x1]) (.agg #[.int .i64 y0, .int .u64 y1])).run Try.prog w = .ok (x0 == y0 && (x1 == y1)) w := by
  refine eqA_of Try.underlying34 (by kernel_rfl) ?_
  refine eqf_cons (by rfl) (by go_simp; rfl) (by go_simp; rfl) (by go_simp) ?_
  exact eqf_last (by rfl) (by go_simp; rfl) (by go_simp; rfl) (by go_simp)
end Go.Proofs.Ytgkjdpdmmlalcaa.F
end
