/- The law WideSigns walked: a closure that joins halves; the tests come out as they should. Condition: the table of blanks. -/
import Derived.WalkKit
import Derived.OwnWalkIn
import Derived.WalkSmall
import Derived.Lib.Hide
import Derived.Shelf.RegionOpen
import Derived.Test.YtommcnppgodhgaaDoorPWide
import Derived.Test.YtommcnppgodhgaaDoorFFerrylaw10Awake
namespace Go.Proofs.YtommcnppgodhgaaDoor.F
open Go.RowKit Go.Shelf Go.Proofs.YtommcnppgodhgaaDoorW.PrintWords Go.Proofs.YtommcnppgodhgaaDoorW.PrintLast Go.Proofs.YtommcnppgodhgaaDoorW.PrintMore
set_option linter.unusedVariables false
set_option linter.unusedSimpArgs false

theorem signs_join (h l : Int) (a0 : 0 ≤ h) (a1 : h ≤ 4294967295) (b0 : 0 ≤ l) (b1 : l ≤ 4294967295) (w : World) :
    Calls Tryd.prog 13 #[.int .u32 h, .int .u32 l] w fun e w' => e = .returned (.int .u64 (h * 4294967296 + l)) ∧ Drawn0 w w' := by
  have e : bits .or .u64 (IntKind.u64.wrap (IntKind.u64.wrap h * 4294967296)) (IntKind.u64.wrap l) = h * 4294967296 + l := both_of h l a0 a1 b0 b1
  have e2 : bits .or .u64 (h * 4294967296) l = h * 4294967296 + l := join64 32 (by omega) (by omega) (by omega) b0 (by omega) (by omega)
  go_enter Tryd.func13, Tryd.ntmps13
  go_wp2
  go_ret
  first
    | exact ⟨rfl, Drawn0.refl _⟩
    | exact ⟨by rw [e], Drawn0.refl _⟩
theorem U_bound (n : Int) : 0 ≤ U n ∧ U n ≤ 18446744073709551615 := by
  unfold U
  omega
theorem signs_halves (n : Int) (h0 : 0 ≤ n) (h1 : n ≤ 18446744073709551615) (w : World) :
    Calls Tryd.prog 13 #[.int .u32 (n / 4294967296 % 4294967296), .int .u32 (n % 4294967296)] w fun e w' => e = .returned (.int .u64 n) ∧ Drawn0 w w' := by
  have h := signs_join (n / 4294967296 % 4294967296) (n % 4294967296) (by omega) (by omega) (by omega) (by omega) w
  rw [show n / 4294967296 % 4294967296 * 4294967296 + n % 4294967296 = n by omega] at h
  exact h
theorem signs_awake : ferrylaw10_awake.f = some true := by decide +kernel
-- HAND fn=ferry/ferrylaw10.WideSigns ; rounds=0 ; making=1 ; laid=1
def ferrylaw10_WideSigns.f (a0 a1 a2 a3 : Int) : Option Bool := if 0 ≤ a0 ∧ a0 ≤ 4294967295 ∧ 0 ≤ a1 ∧ a1 ≤ 4294967295 ∧ 0 ≤ a2 ∧ a2 ≤ 4294967295 ∧ 0 ≤ a3 ∧ a3 ≤ 4294967295 then some true else none
set_option maxHeartbeats 8000000 in
set_option maxRecDepth 100000 in
theorem ferrylaw10_WideSigns.calls (a0 a1 a2 a3 : Int) (r : Bool) (w : World) (hL : Laid w) (h : ferrylaw10_WideSigns.f a0 a1 a2 a3 = some r) :
    Calls Tryd.prog 5 #[.int .u32 a0, .int .u32 a1, .int .u32 a2, .int .u32 a3] w fun e w' => e = .returned (.bool r) ∧ Below w.heap.size w w' := by
  unfold ferrylaw10_WideSigns.f at h
  by_cases hc : 0 ≤ a0 ∧ a0 ≤ 4294967295 ∧ 0 ≤ a1 ∧ a1 ≤ 4294967295 ∧ 0 ≤ a2 ∧ a2 ≤ 4294967295 ∧ 0 ≤ a3 ∧ a3 ≤ 4294967295
  · rw [if_pos hc] at h
    obtain rfl := Option.some.inj h
    obtain ⟨h0, h1, h2, h3, h4, h5, h6, h7⟩ := hc
    clear h
    have hn0 : 0 ≤ -a0 % 4294967296 := by omega
    have hn1 : -a0 % 4294967296 ≤ 4294967295 := by omega
    -- what the calls come to
    have D1 := Lib.hid (fun w hL => wide_Do.calls _ a0 a1 a2 a3 _ _ w hL (do_multu a0 a1 a2 a3 h0 h1 h2 h3 h4 h5 h6 h7))
    have D2 := Lib.hid (fun w hL => wide_Do.calls _ a0 a1 a2 a3 _ _ w hL (do_mult a0 a1 a2 a3 h0 h1 h2 h3 h4 h5 h6 h7))
    have D3 := Lib.hid (fun w hL => wide_Do.calls _ (-a0 % 4294967296) a1 a2 a3 _ _ w hL (do_mult (-a0 % 4294967296) a1 a2 a3 hn0 hn1 h2 h3 h4 h5 h6 h7))
    have D4 := Lib.hid (fun w hL => wide_Do.calls _ a0 a1 a2 a3 _ _ w hL (do_mthi a0 a1 a2 a3 h0 h1 h2 h3 h4 h5 h6 h7))
    have D5 := Lib.hid (fun w hL => wide_Do.calls _ a0 a1 a2 a3 _ _ w hL (do_mtlo a0 a1 a2 a3 h0 h1 h2 h3 h4 h5 h6 h7))
    have J1 := Lib.hid (signs_halves (U (a0 * a1)) (U_bound _).1 (U_bound _).2)
    have J2 := Lib.hid (signs_halves (U (wrap32 a0 * wrap32 a1)) (U_bound _).1 (U_bound _).2)
    have J3 := Lib.hid (signs_halves (U (wrap32 (-a0 % 4294967296) * wrap32 a1)) (U_bound _).1 (U_bound _).2)
    have J4 := Lib.hid (signs_join a0 a3 h0 h1 h6 h7)
    have J5 := Lib.hid (signs_join a2 a0 h4 h5 h0 h1)
    have AW := Lib.hid (fun w hL => ferrylaw10_awake.calls true w hL signs_awake)
    have q0 : IntKind.u64.wrap a0 = a0 := by rw [u64w]; omega
    have q1 : IntKind.u64.wrap a1 = a1 := by rw [u64w]; omega
    have q2 : IntKind.u64.wrap (a0 * a1) = U (a0 * a1) := u64w _
    have q3 : wrap64 (wrap32 a0) = wrap32 a0 := wrap64_32 _
    have q4 : wrap64 (wrap32 a1) = wrap32 a1 := wrap64_32 _
    have q5 : IntKind.u64.wrap (wrap64 (wrap32 a0 * wrap32 a1)) = U (wrap32 a0 * wrap32 a1) := by rw [u64w]; exact U_wrap64 _
    have q6 : a0 ≠ 2147483648 → U (wrap32 (-a0 % 4294967296) * wrap32 a1) = IntKind.u64.wrap (- U (wrap32 a0 * wrap32 a1)) := by
      intro hne
      have e : wrap32 (-a0 % 4294967296) = - wrap32 a0 := by unfold wrap32; omega
      rw [e, u64w, Int.neg_mul]
      unfold U
      omega
    generalize U (a0 * a1) = A at *
    generalize U (wrap32 a0 * wrap32 a1) = M at *
    generalize U (wrap32 (-a0 % 4294967296) * wrap32 a1) = K at *
    by_cases hne : a0 = 2147483648
    · have b0 : (a0 != 2147483648) = false := by simpa using hne
      clear hne q6 D3 J3
      go_enter Tryd.func5, Tryd.ntmps5
      go_wp2_with (first
        | (go_at_call 8; (with_reducible refine (D1.out _ hL).mono ?_); rintro e w1 ⟨rfl, hb1⟩; have hL1 := Laid.below hL hb1; have hB1 := hb1)
        | (go_at_call 13; (with_reducible refine (J1.out _).mono ?_); rintro e w2 ⟨rfl, ⟨nd2, rfl⟩⟩; have hL2 := Laid.drawn hL1 ⟨nd2, rfl⟩; have hB2 := below_drewN hB1 nd2)
        | (go_at_call 8; (with_reducible refine (D2.out _ hL2).mono ?_); rintro e w3 ⟨rfl, hb3⟩; have hL3 := Laid.below hL2 hb3; have hB3 := Below.trans hB2 (hb3.mono hB2.size))
        | (go_at_call 13; (with_reducible refine (J2.out _).mono ?_); rintro e w4 ⟨rfl, ⟨nd4, rfl⟩⟩; have hL4 := Laid.drawn hL3 ⟨nd4, rfl⟩; have hB4 := below_drewN hB3 nd4)
        | (go_at_call 8; (with_reducible refine (D4.out _ hL4).mono ?_); rintro e w5 ⟨rfl, hb5⟩; have hL5 := Laid.below hL4 hb5; have hB5 := Below.trans hB4 (hb5.mono hB4.size))
        | (go_at_call 13; (with_reducible refine (J4.out _).mono ?_); rintro e w6 ⟨rfl, ⟨nd6, rfl⟩⟩; have hL6 := Laid.drawn hL5 ⟨nd6, rfl⟩; have hB6 := below_drewN hB5 nd6)
        | (go_at_call 8; (with_reducible refine (D5.out _ hL6).mono ?_); rintro e w7 ⟨rfl, hb7⟩; have hL7 := Laid.below hL6 hb7; have hB7 := Below.trans hB6 (hb7.mono hB6.size))
        | (go_at_call 13; (with_reducible refine (J5.out _).mono ?_); rintro e w8 ⟨rfl, ⟨nd8, rfl⟩⟩; have hL8 := Laid.drawn hL7 ⟨nd8, rfl⟩; have hB8 := below_drewN hB7 nd8)
        | (go_at_call 13; (with_reducible refine (J4.out _).mono ?_); rintro e w9 ⟨rfl, ⟨nd9, rfl⟩⟩; have hL9 := Laid.drawn hL8 ⟨nd9, rfl⟩; have hB9 := below_drewN hB8 nd9)
        | (go_at_call 13; (with_reducible refine (J5.out _).mono ?_); rintro e w10 ⟨rfl, ⟨nd10, rfl⟩⟩; have hL10 := Laid.drawn hL9 ⟨nd10, rfl⟩; have hB10 := below_drewN hB9 nd10)
        | (go_at_call 12; refine (AW.out _ (Laid.drawn hL7 ⟨_, rfl⟩)).mono ?_; rintro e w11 ⟨rfl, hb11⟩; have hB11 := Below.trans (below_drewN hB7 _) (hb11.mono (below_drewN hB7 _).size)))
      go_ret
      exact ⟨rfl, hB11⟩
    · have q7 := q6 hne
      clear q6
      subst q7
      have b0 : (a0 != 2147483648) = true := by simpa using hne
      go_enter Tryd.func5, Tryd.ntmps5
      go_wp2_with (first
        | (go_at_call 8; (with_reducible refine (D1.out _ hL).mono ?_); rintro e w1 ⟨rfl, hb1⟩; have hL1 := Laid.below hL hb1; have hB1 := hb1)
        | (go_at_call 13; (with_reducible refine (J1.out _).mono ?_); rintro e w2 ⟨rfl, ⟨nd2, rfl⟩⟩; have hL2 := Laid.drawn hL1 ⟨nd2, rfl⟩; have hB2 := below_drewN hB1 nd2)
        | (go_at_call 8; (with_reducible refine (D2.out _ hL2).mono ?_); rintro e w3 ⟨rfl, hb3⟩; have hL3 := Laid.below hL2 hb3; have hB3 := Below.trans hB2 (hb3.mono hB2.size))
        | (go_at_call 13; (with_reducible refine (J2.out _).mono ?_); rintro e w4 ⟨rfl, ⟨nd4, rfl⟩⟩; have hL4 := Laid.drawn hL3 ⟨nd4, rfl⟩; have hB4 := below_drewN hB3 nd4)
        | (go_at_call 8; (with_reducible refine (D3.out _ hL4).mono ?_); rintro e w5 ⟨rfl, hb5⟩; have hL5 := Laid.below hL4 hb5; have hB5 := Below.trans hB4 (hb5.mono hB4.size))
        | (go_at_call 13; (with_reducible refine (J3.out _).mono ?_); rintro e w6 ⟨rfl, ⟨nd6, rfl⟩⟩; have hL6 := Laid.drawn hL5 ⟨nd6, rfl⟩; have hB6 := below_drewN hB5 nd6)
        | (go_at_call 8; (with_reducible refine (D4.out _ hL6).mono ?_); rintro e w7 ⟨rfl, hb7⟩; have hL7 := Laid.below hL6 hb7; have hB7 := Below.trans hB6 (hb7.mono hB6.size))
        | (go_at_call 13; (with_reducible refine (J4.out _).mono ?_); rintro e w8 ⟨rfl, ⟨nd8, rfl⟩⟩; have hL8 := Laid.drawn hL7 ⟨nd8, rfl⟩; have hB8 := below_drewN hB7 nd8)
        | (go_at_call 8; (with_reducible refine (D5.out _ hL8).mono ?_); rintro e w9 ⟨rfl, hb9⟩; have hL9 := Laid.below hL8 hb9; have hB9 := Below.trans hB8 (hb9.mono hB8.size))
        | (go_at_call 13; (with_reducible refine (J5.out _).mono ?_); rintro e w10 ⟨rfl, ⟨nd10, rfl⟩⟩; have hL10 := Laid.drawn hL9 ⟨nd10, rfl⟩; have hB10 := below_drewN hB9 nd10)
        | (go_at_call 13; (with_reducible refine (J4.out _).mono ?_); rintro e w11 ⟨rfl, ⟨nd11, rfl⟩⟩; have hL11 := Laid.drawn hL10 ⟨nd11, rfl⟩; have hB11 := below_drewN hB10 nd11)
        | (go_at_call 13; (with_reducible refine (J5.out _).mono ?_); rintro e w12 ⟨rfl, ⟨nd12, rfl⟩⟩; have hL12 := Laid.drawn hL11 ⟨nd12, rfl⟩; have hB12 := below_drewN hB11 nd12)
        | (go_at_call 12; refine (AW.out _ (Laid.drawn hL9 ⟨_, rfl⟩)).mono ?_; rintro e w13 ⟨rfl, hb13⟩; have hB13 := Below.trans (below_drewN hB9 _) (hb13.mono (below_drewN hB9 _).size)))
      go_ret
      exact ⟨rfl, hB13⟩
  · rw [if_neg hc] at h
    cases h
end Go.Proofs.YtommcnppgodhgaaDoor.F
