/- Functions of this seat's program, each as a plain Lean function, and what a call of each comes to. No condition. -/
import Derived.Test.YtommcnppgodhgaaDoorF0
import Derived.Test.YtommcnppgodhgaaDoorFFerryref10Halves
import Derived.Test.YtommcnppgodhgaaDoorFFerryref10Signed
import Derived.Test.YtommcnppgodhgaaDoorFFerryref10Unsigned
import Derived.Test.YtommcnppgodhgaaDoorFFerryref10Part
namespace Go.Proofs.YtommcnppgodhgaaDoor.F
open Go.RowKit Go.Proofs.YtommcnppgodhgaaDoorW.PrintWords Go.Proofs.YtommcnppgodhgaaDoorW.PrintLast Go.Proofs.YtommcnppgodhgaaDoorW.PrintMore
attribute [local go_sem] max2_int min2_int max_two min_two max_three min_three max_four min_four   -- for this text's walks alone
set_option linter.unusedVariables false
set_option linter.unusedSimpArgs false

/-! ### ferryref10_Do: function 9 -/
def ferryref10_Do.j0 : Nat → ByteArray → Int → Int → Int → Int → Bool → Option (Int × Int)
  | 0, _, _, _, _, _, _ => none
  | k + 1, x0, x1, x2, x3, x4, x84 => if x84 = true then (if x2 = 0 then (some (x1, 4294967295)) else (if x0.toList = ([100, 105, 118] : List UInt8) then ((ferryref10_part.f x1 x2).bind fun bt131 => (some (bt131.1, bt131.2))) else (some (Int.tmod x1 x2, (Int.tdiv x1 x2) % 4294967296)))) else (some (x3, x4))
def ferryref10_Do.f (k : Nat) (a0 : ByteArray) (a1 : Int) (a2 : Int) (a3 : Int) (a4 : Int) : Option (Int × Int) := if a0.toList = ([109, 117, 108, 116] : List UInt8) then ((ferryref10_signed.f a1 a2).bind fun t113 => ((ferryref10_halves.f t113).bind fun bt114 => (some (bt114.1, bt114.2)))) else (if a0.toList = ([109, 117, 108, 116, 117] : List UInt8) then ((ferryref10_unsigned.f a1 a2).bind fun t116 => ((ferryref10_halves.f t116).bind fun bt117 => (some (bt117.1, bt117.2)))) else (if a0.toList = ([109, 97, 100, 100] : List UInt8) then ((ferryref10_signed.f a1 a2).bind fun t119 => ((ferryref10_halves.f (IntKind.u64.wrap ((Go.bits .or .u64 (IntKind.u64.wrap ((IntKind.u64.wrap (a3)) * 4294967296)) (IntKind.u64.wrap (a4))) + t119))).bind fun bt120 => (some (bt120.1, bt120.2)))) else (if a0.toList = ([109, 97, 100, 100, 117] : List UInt8) then ((ferryref10_unsigned.f a1 a2).bind fun t122 => ((ferryref10_halves.f (IntKind.u64.wrap ((Go.bits .or .u64 (IntKind.u64.wrap ((IntKind.u64.wrap (a3)) * 4294967296)) (IntKind.u64.wrap (a4))) + t122))).bind fun bt123 => (some (bt123.1, bt123.2)))) else (if a0.toList = ([109, 115, 117, 98] : List UInt8) then ((ferryref10_signed.f a1 a2).bind fun t125 => ((ferryref10_halves.f (IntKind.u64.wrap ((Go.bits .or .u64 (IntKind.u64.wrap ((IntKind.u64.wrap (a3)) * 4294967296)) (IntKind.u64.wrap (a4))) - t125))).bind fun bt126 => (some (bt126.1, bt126.2)))) else (if a0.toList = ([109, 115, 117, 98, 117] : List UInt8) then ((ferryref10_unsigned.f a1 a2).bind fun t128 => ((ferryref10_halves.f (IntKind.u64.wrap ((Go.bits .or .u64 (IntKind.u64.wrap ((IntKind.u64.wrap (a3)) * 4294967296)) (IntKind.u64.wrap (a4))) - t128))).bind fun bt129 => (some (bt129.1, bt129.2)))) else (if a0.toList = ([109, 116, 104, 105] : List UInt8) then (some (a1, a4)) else (if a0.toList = ([109, 116, 108, 111] : List UInt8) then (some (a3, a1)) else (if a0.toList = ([100, 105, 118] : List UInt8) then (ferryref10_Do.j0 k a0 a1 a2 a3 a4 (a0.toList == ([100, 105, 118] : List UInt8))) else (ferryref10_Do.j0 k a0 a1 a2 a3 a4 (a0.toList == ([100, 105, 118, 117] : List UInt8)))))))))))
theorem ferryref10_Do.mono_l : ∀ k, (∀ y0 y1 y2 y3 y4 y5, LeO (ferryref10_Do.j0 k y0 y1 y2 y3 y4 y5) (ferryref10_Do.j0 (k + 1) y0 y1 y2 y3 y4 y5))
  | 0 => fun _ _ _ _ _ _ r h => by simp [ferryref10_Do.j0] at h
  | k + 1 => by
    have ih0 := ferryref10_Do.mono_l k
    · intro y0 y1 y2 y3 y4 y5
      unfold ferryref10_Do.j0
      repeat' first
      | (with_reducible exact ih0 _ _ _ _ _ _)
      | (with_reducible exact LeO.refl _)
      | (with_reducible exact LeO.none _)
      | (with_reducible refine LeO.ite ?_ ?_)
      | (with_reducible refine LeO.bind ?_ (fun _ => ?_))
      | exact ih0 _ _ _ _ _ _
      | exact LeO.none _
      | refine LeO.ite ?_ ?_
      | refine LeO.bind ?_ (fun _ => ?_)
theorem ferryref10_Do.mono : ∀ a0 a1 a2 a3 a4 k, LeO (ferryref10_Do.f k a0 a1 a2 a3 a4) (ferryref10_Do.f (k + 1) a0 a1 a2 a3 a4) := by
  intro a0 a1 a2 a3 a4 k
  have ih0 := ferryref10_Do.mono_l k
  unfold ferryref10_Do.f
  repeat' first
      | (with_reducible exact ih0 _ _ _ _ _ _)
      | (with_reducible exact LeO.refl _)
      | (with_reducible exact LeO.none _)
      | (with_reducible refine LeO.ite ?_ ?_)
      | (with_reducible refine LeO.bind ?_ (fun _ => ?_))
      | exact ih0 _ _ _ _ _ _
      | exact LeO.none _
      | refine LeO.ite ?_ ?_
      | refine LeO.bind ?_ (fun _ => ?_)
set_option maxHeartbeats 8000000 in
set_option maxRecDepth 100000 in
theorem ferryref10_Do.calls (k : Nat) (a0 : ByteArray) (a1 : Int) (a2 : Int) (a3 : Int) (a4 : Int) (r1 : Int) (r2 : Int) (w : World) (h : ferryref10_Do.f k a0 a1 a2 a3 a4 = some (r1, r2)) :
    Calls Tryd.prog 9 #[.string a0, .int .u32 a1, .int .u32 a2, .int .u32 a3, .int .u32 a4] w fun e w' => e = .returned (.tuple #[.int .u32 r1, .int .u32 r2]) ∧ Drawn0 w w' := by
  have H : (if a0.toList = ([109, 117, 108, 116] : List UInt8) then ((ferryref10_signed.f a1 a2).bind fun t113 => ((ferryref10_halves.f t113).bind fun bt114 => (some (bt114.1, bt114.2)))) else (if a0.toList = ([109, 117, 108, 116, 117] : List UInt8) then ((ferryref10_unsigned.f a1 a2).bind fun t116 => ((ferryref10_halves.f t116).bind fun bt117 => (some (bt117.1, bt117.2)))) else (if a0.toList = ([109, 97, 100, 100] : List UInt8) then ((ferryref10_signed.f a1 a2).bind fun t119 => ((ferryref10_halves.f (IntKind.u64.wrap ((Go.bits .or .u64 (IntKind.u64.wrap ((IntKind.u64.wrap (a3)) * 4294967296)) (IntKind.u64.wrap (a4))) + t119))).bind fun bt120 => (some (bt120.1, bt120.2)))) else (if a0.toList = ([109, 97, 100, 100, 117] : List UInt8) then ((ferryref10_unsigned.f a1 a2).bind fun t122 => ((ferryref10_halves.f (IntKind.u64.wrap ((Go.bits .or .u64 (IntKind.u64.wrap ((IntKind.u64.wrap (a3)) * 4294967296)) (IntKind.u64.wrap (a4))) + t122))).bind fun bt123 => (some (bt123.1, bt123.2)))) else (if a0.toList = ([109, 115, 117, 98] : List UInt8) then ((ferryref10_signed.f a1 a2).bind fun t125 => ((ferryref10_halves.f (IntKind.u64.wrap ((Go.bits .or .u64 (IntKind.u64.wrap ((IntKind.u64.wrap (a3)) * 4294967296)) (IntKind.u64.wrap (a4))) - t125))).bind fun bt126 => (some (bt126.1, bt126.2)))) else (if a0.toList = ([109, 115, 117, 98, 117] : List UInt8) then ((ferryref10_unsigned.f a1 a2).bind fun t128 => ((ferryref10_halves.f (IntKind.u64.wrap ((Go.bits .or .u64 (IntKind.u64.wrap ((IntKind.u64.wrap (a3)) * 4294967296)) (IntKind.u64.wrap (a4))) - t128))).bind fun bt129 => (some (bt129.1, bt129.2)))) else (if a0.toList = ([109, 116, 104, 105] : List UInt8) then (some (a1, a4)) else (if a0.toList = ([109, 116, 108, 111] : List UInt8) then (some (a3, a1)) else (if a0.toList = ([100, 105, 118] : List UInt8) then (ferryref10_Do.j0 k a0 a1 a2 a3 a4 (a0.toList == ([100, 105, 118] : List UInt8))) else (ferryref10_Do.j0 k a0 a1 a2 a3 a4 (a0.toList == ([100, 105, 118, 117] : List UInt8)))))))))))) = some (r1, r2) := h
  clear h
  by_cases c6 : a0.toList = ([109, 117, 108, 116] : List UInt8)
  · rw [if_pos c6] at H
    have c6b0 : (a0.toList == ([109, 117, 108, 116] : List UInt8)) = true := beq_iff_eq.mpr c6
    have c6b1 : (a0.toList != ([109, 117, 108, 116] : List UInt8)) = false := bne_eq_false_iff_eq.mpr c6
    clear c6
    replace H := Option.bind_eq_some_iff.mp H
    obtain ⟨t113, A70, H⟩ := H
    replace H : ((ferryref10_halves.f t113).bind fun bt114 => (some (bt114.1, bt114.2))) = some (r1, r2) := H
    have A7 := Aside0.mk A70
    clear A70
    replace H := Option.bind_eq_some_iff.mp H
    obtain ⟨⟨t114, t115⟩, A80, H⟩ := H
    replace H : (some (t114, t115)) = some (r1, r2) := H
    have A8 := Aside0.mk A80
    clear A80
    simp only [Option.some.injEq, Prod.mk.injEq] at H
    obtain ⟨rfl, rfl⟩ := H
    go_enter Tryd.func9, Tryd.ntmps9
    go_wp2_with (first | (go_at_call 29; (with_reducible refine (ferryref10_signed.calls a1 a2 t113 _ A7.out).mono ?_); rintro e w' ⟨rfl, ⟨nd, rfl⟩⟩; (try first | exact ⟨rfl, _, World.drewN_drewN _ _ _⟩ | exact ⟨rfl, _, Eq.trans (World.drewN_drewN _ _ _) (congrArg (World.drewN _) (Nat.add_assoc _ _ _))⟩)) | (go_at_call 28; (with_reducible refine (ferryref10_halves.calls t113 t114 t115 _ A8.out).mono ?_); rintro e w' ⟨rfl, ⟨nd, rfl⟩⟩; (try first | exact ⟨rfl, _, World.drewN_drewN _ _ _⟩ | exact ⟨rfl, _, Eq.trans (World.drewN_drewN _ _ _) (congrArg (World.drewN _) (Nat.add_assoc _ _ _))⟩)))
    repeat (go_quiet (first | (go_at_call 29; (with_reducible refine (ferryref10_signed.calls a1 a2 t113 _ A7.out).mono ?_); rintro e w' ⟨rfl, ⟨nd, rfl⟩⟩; (try first | exact ⟨rfl, _, World.drewN_drewN _ _ _⟩ | exact ⟨rfl, _, Eq.trans (World.drewN_drewN _ _ _) (congrArg (World.drewN _) (Nat.add_assoc _ _ _))⟩)) | (go_at_call 28; (with_reducible refine (ferryref10_halves.calls t113 t114 t115 _ A8.out).mono ?_); rintro e w' ⟨rfl, ⟨nd, rfl⟩⟩; (try first | exact ⟨rfl, _, World.drewN_drewN _ _ _⟩ | exact ⟨rfl, _, Eq.trans (World.drewN_drewN _ _ _) (congrArg (World.drewN _) (Nat.add_assoc _ _ _))⟩))); try go_wp2_with (first | (go_at_call 29; (with_reducible refine (ferryref10_signed.calls a1 a2 t113 _ A7.out).mono ?_); rintro e w' ⟨rfl, ⟨nd, rfl⟩⟩; (try first | exact ⟨rfl, _, World.drewN_drewN _ _ _⟩ | exact ⟨rfl, _, Eq.trans (World.drewN_drewN _ _ _) (congrArg (World.drewN _) (Nat.add_assoc _ _ _))⟩)) | (go_at_call 28; (with_reducible refine (ferryref10_halves.calls t113 t114 t115 _ A8.out).mono ?_); rintro e w' ⟨rfl, ⟨nd, rfl⟩⟩; (try first | exact ⟨rfl, _, World.drewN_drewN _ _ _⟩ | exact ⟨rfl, _, Eq.trans (World.drewN_drewN _ _ _) (congrArg (World.drewN _) (Nat.add_assoc _ _ _))⟩))))
    go_ret2
    exact ⟨by first | rfl | (simp; done) | (simp [*]; done), by repeat (first | exact Drawn0.refl _ | apply Drawn0.step)⟩
  · rw [if_neg c6] at H
    have c6b0 : (a0.toList == ([109, 117, 108, 116] : List UInt8)) = false := beq_eq_false_iff_ne.mpr c6
    have c6b1 : (a0.toList != ([109, 117, 108, 116] : List UInt8)) = true := bne_iff_ne.mpr c6
    by_cases c9 : a0.toList = ([109, 117, 108, 116, 117] : List UInt8)
    · rw [if_pos c9] at H
      have c9b0 : (a0.toList == ([109, 117, 108, 116, 117] : List UInt8)) = true := beq_iff_eq.mpr c9
      have c9b1 : (a0.toList != ([109, 117, 108, 116, 117] : List UInt8)) = false := bne_eq_false_iff_eq.mpr c9
      clear c9
      replace H := Option.bind_eq_some_iff.mp H
      obtain ⟨t116, A100, H⟩ := H
      replace H : ((ferryref10_halves.f t116).bind fun bt117 => (some (bt117.1, bt117.2))) = some (r1, r2) := H
      have A10 := Aside0.mk A100
      clear A100
      replace H := Option.bind_eq_some_iff.mp H
      obtain ⟨⟨t117, t118⟩, A110, H⟩ := H
      replace H : (some (t117, t118)) = some (r1, r2) := H
      have A11 := Aside0.mk A110
      clear A110
      simp only [Option.some.injEq, Prod.mk.injEq] at H
      obtain ⟨rfl, rfl⟩ := H
      go_enter Tryd.func9, Tryd.ntmps9
      go_wp2_with (first | (go_at_call 30; (with_reducible refine (ferryref10_unsigned.calls a1 a2 t116 _ A10.out).mono ?_); rintro e w' ⟨rfl, ⟨nd, rfl⟩⟩; (try first | exact ⟨rfl, _, World.drewN_drewN _ _ _⟩ | exact ⟨rfl, _, Eq.trans (World.drewN_drewN _ _ _) (congrArg (World.drewN _) (Nat.add_assoc _ _ _))⟩)) | (go_at_call 28; (with_reducible refine (ferryref10_halves.calls t116 t117 t118 _ A11.out).mono ?_); rintro e w' ⟨rfl, ⟨nd, rfl⟩⟩; (try first | exact ⟨rfl, _, World.drewN_drewN _ _ _⟩ | exact ⟨rfl, _, Eq.trans (World.drewN_drewN _ _ _) (congrArg (World.drewN _) (Nat.add_assoc _ _ _))⟩)))
      repeat (go_quiet (first | (go_at_call 30; (with_reducible refine (ferryref10_unsigned.calls a1 a2 t116 _ A10.out).mono ?_); rintro e w' ⟨rfl, ⟨nd, rfl⟩⟩; (try first | exact ⟨rfl, _, World.drewN_drewN _ _ _⟩ | exact ⟨rfl, _, Eq.trans (World.drewN_drewN _ _ _) (congrArg (World.drewN _) (Nat.add_assoc _ _ _))⟩)) | (go_at_call 28; (with_reducible refine (ferryref10_halves.calls t116 t117 t118 _ A11.out).mono ?_); rintro e w' ⟨rfl, ⟨nd, rfl⟩⟩; (try first | exact ⟨rfl, _, World.drewN_drewN _ _ _⟩ | exact ⟨rfl, _, Eq.trans (World.drewN_drewN _ _ _) (congrArg (World.drewN _) (Nat.add_assoc _ _ _))⟩))); try go_wp2_with (first | (go_at_call 30; (with_reducible refine (ferryref10_unsigned.calls a1 a2 t116 _ A10.out).mono ?_); rintro e w' ⟨rfl, ⟨nd, rfl⟩⟩; (try first | exact ⟨rfl, _, World.drewN_drewN _ _ _⟩ | exact ⟨rfl, _, Eq.trans (World.drewN_drewN _ _ _) (congrArg (World.drewN _) (Nat.add_assoc _ _ _))⟩)) | (go_at_call 28; (with_reducible refine (ferryref10_halves.calls t116 t117 t118 _ A11.out).mono ?_); rintro e w' ⟨rfl, ⟨nd, rfl⟩⟩; (try first | exact ⟨rfl, _, World.drewN_drewN _ _ _⟩ | exact ⟨rfl, _, Eq.trans (World.drewN_drewN _ _ _) (congrArg (World.drewN _) (Nat.add_assoc _ _ _))⟩))))
      go_ret2
      exact ⟨by first | rfl | (simp; done) | (simp [*]; done), by repeat (first | exact Drawn0.refl _ | apply Drawn0.step)⟩
    · rw [if_neg c9] at H
      have c9b0 : (a0.toList == ([109, 117, 108, 116, 117] : List UInt8)) = false := beq_eq_false_iff_ne.mpr c9
      have c9b1 : (a0.toList != ([109, 117, 108, 116, 117] : List UInt8)) = true := bne_iff_ne.mpr c9
      by_cases c12 : a0.toList = ([109, 97, 100, 100] : List UInt8)
      · rw [if_pos c12] at H
        have c12b0 : (a0.toList == ([109, 97, 100, 100] : List UInt8)) = true := beq_iff_eq.mpr c12
        have c12b1 : (a0.toList != ([109, 97, 100, 100] : List UInt8)) = false := bne_eq_false_iff_eq.mpr c12
        clear c12
        replace H := Option.bind_eq_some_iff.mp H
        obtain ⟨t119, A130, H⟩ := H
        replace H : ((ferryref10_halves.f (IntKind.u64.wrap ((Go.bits .or .u64 (IntKind.u64.wrap ((IntKind.u64.wrap (a3)) * 4294967296)) (IntKind.u64.wrap (a4))) + t119))).bind fun bt120 => (some (bt120.1, bt120.2))) = some (r1, r2) := H
        have A13 := Aside0.mk A130
        clear A130
        replace H := Option.bind_eq_some_iff.mp H
        obtain ⟨⟨t120, t121⟩, A140, H⟩ := H
        replace H : (some (t120, t121)) = some (r1, r2) := H
        have A14 := Aside0.mk A140
        clear A140
        simp only [Option.some.injEq, Prod.mk.injEq] at H
        obtain ⟨rfl, rfl⟩ := H
        go_enter Tryd.func9, Tryd.ntmps9
        go_wp2_with (first | (go_at_call 29; (with_reducible refine (ferryref10_signed.calls a1 a2 t119 _ A13.out).mono ?_); rintro e w' ⟨rfl, ⟨nd, rfl⟩⟩; (try first | exact ⟨rfl, _, World.drewN_drewN _ _ _⟩ | exact ⟨rfl, _, Eq.trans (World.drewN_drewN _ _ _) (congrArg (World.drewN _) (Nat.add_assoc _ _ _))⟩)) | (go_at_call 28; (with_reducible refine (ferryref10_halves.calls (IntKind.u64.wrap ((Go.bits .or .u64 (IntKind.u64.wrap ((IntKind.u64.wrap (a3)) * 4294967296)) (IntKind.u64.wrap (a4))) + t119)) t120 t121 _ A14.out).mono ?_); rintro e w' ⟨rfl, ⟨nd, rfl⟩⟩; (try first | exact ⟨rfl, _, World.drewN_drewN _ _ _⟩ | exact ⟨rfl, _, Eq.trans (World.drewN_drewN _ _ _) (congrArg (World.drewN _) (Nat.add_assoc _ _ _))⟩)))
        repeat (go_quiet (first | (go_at_call 29; (with_reducible refine (ferryref10_signed.calls a1 a2 t119 _ A13.out).mono ?_); rintro e w' ⟨rfl, ⟨nd, rfl⟩⟩; (try first | exact ⟨rfl, _, World.drewN_drewN _ _ _⟩ | exact ⟨rfl, _, Eq.trans (World.drewN_drewN _ _ _) (congrArg (World.drewN _) (Nat.add_assoc _ _ _))⟩)) | (go_at_call 28; (with_reducible refine (ferryref10_halves.calls (IntKind.u64.wrap ((Go.bits .or .u64 (IntKind.u64.wrap ((IntKind.u64.wrap (a3)) * 4294967296)) (IntKind.u64.wrap (a4))) + t119)) t120 t121 _ A14.out).mono ?_); rintro e w' ⟨rfl, ⟨nd, rfl⟩⟩; (try first | exact ⟨rfl, _, World.drewN_drewN _ _ _⟩ | exact ⟨rfl, _, Eq.trans (World.drewN_drewN _ _ _) (congrArg (World.drewN _) (Nat.add_assoc _ _ _))⟩))); try go_wp2_with (first | (go_at_call 29; (with_reducible refine (ferryref10_signed.calls a1 a2 t119 _ A13.out).mono ?_); rintro e w' ⟨rfl, ⟨nd, rfl⟩⟩; (try first | exact ⟨rfl, _, World.drewN_drewN _ _ _⟩ | exact ⟨rfl, _, Eq.trans (World.drewN_drewN _ _ _) (congrArg (World.drewN _) (Nat.add_assoc _ _ _))⟩)) | (go_at_call 28; (with_reducible refine (ferryref10_halves.calls (IntKind.u64.wrap ((Go.bits .or .u64 (IntKind.u64.wrap ((IntKind.u64.wrap (a3)) * 4294967296)) (IntKind.u64.wrap (a4))) + t119)) t120 t121 _ A14.out).mono ?_); rintro e w' ⟨rfl, ⟨nd, rfl⟩⟩; (try first | exact ⟨rfl, _, World.drewN_drewN _ _ _⟩ | exact ⟨rfl, _, Eq.trans (World.drewN_drewN _ _ _) (congrArg (World.drewN _) (Nat.add_assoc _ _ _))⟩))))
        go_ret2
        exact ⟨by first | rfl | (simp; done) | (simp [*]; done), by repeat (first | exact Drawn0.refl _ | apply Drawn0.step)⟩
      · rw [if_neg c12] at H
        have c12b0 : (a0.toList == ([109, 97, 100, 100] : List UInt8)) = false := beq_eq_false_iff_ne.mpr c12
        have c12b1 : (a0.toList != ([109, 97, 100, 100] : List UInt8)) = true := bne_iff_ne.mpr c12
        by_cases c15 : a0.toList = ([109, 97, 100, 100, 117] : List UInt8)
        · rw [if_pos c15] at H
          have c15b0 : (a0.toList == ([109, 97, 100, 100, 117] : List UInt8)) = true := beq_iff_eq.mpr c15
          have c15b1 : (a0.toList != ([109, 97, 100, 100, 117] : List UInt8)) = false := bne_eq_false_iff_eq.mpr c15
          clear c15
          replace H := Option.bind_eq_some_iff.mp H
          obtain ⟨t122, A160, H⟩ := H
          replace H : ((ferryref10_halves.f (IntKind.u64.wrap ((Go.bits .or .u64 (IntKind.u64.wrap ((IntKind.u64.wrap (a3)) * 4294967296)) (IntKind.u64.wrap (a4))) + t122))).bind fun bt123 => (some (bt123.1, bt123.2))) = some (r1, r2) := H
          have A16 := Aside0.mk A160
          clear A160
          replace H := Option.bind_eq_some_iff.mp H
          obtain ⟨⟨t123, t124⟩, A170, H⟩ := H
          replace H : (some (t123, t124)) = some (r1, r2) := H
          have A17 := Aside0.mk A170
          clear A170
          simp only [Option.some.injEq, Prod.mk.injEq] at H
          obtain ⟨rfl, rfl⟩ := H
          go_enter Tryd.func9, Tryd.ntmps9
          go_wp2_with (first | (go_at_call 30; (with_reducible refine (ferryref10_unsigned.calls a1 a2 t122 _ A16.out).mono ?_); rintro e w' ⟨rfl, ⟨nd, rfl⟩⟩; (try first | exact ⟨rfl, _, World.drewN_drewN _ _ _⟩ | exact ⟨rfl, _, Eq.trans (World.drewN_drewN _ _ _) (congrArg (World.drewN _) (Nat.add_assoc _ _ _))⟩)) | (go_at_call 28; (with_reducible refine (ferryref10_halves.calls (IntKind.u64.wrap ((Go.bits .or .u64 (IntKind.u64.wrap ((IntKind.u64.wrap (a3)) * 4294967296)) (IntKind.u64.wrap (a4))) + t122)) t123 t124 _ A17.out).mono ?_); rintro e w' ⟨rfl, ⟨nd, rfl⟩⟩; (try first | exact ⟨rfl, _, World.drewN_drewN _ _ _⟩ | exact ⟨rfl, _, Eq.trans (World.drewN_drewN _ _ _) (congrArg (World.drewN _) (Nat.add_assoc _ _ _))⟩)))
          repeat (go_quiet (first | (go_at_call 30; (with_reducible refine (ferryref10_unsigned.calls a1 a2 t122 _ A16.out).mono ?_); rintro e w' ⟨rfl, ⟨nd, rfl⟩⟩; (try first | exact ⟨rfl, _, World.drewN_drewN _ _ _⟩ | exact ⟨rfl, _, Eq.trans (World.drewN_drewN _ _ _) (congrArg (World.drewN _) (Nat.add_assoc _ _ _))⟩)) | (go_at_call 28; (with_reducible refine (ferryref10_halves.calls (IntKind.u64.wrap ((Go.bits .or .u64 (IntKind.u64.wrap ((IntKind.u64.wrap (a3)) * 4294967296)) (IntKind.u64.wrap (a4))) + t122)) t123 t124 _ A17.out).mono ?_); rintro e w' ⟨rfl, ⟨nd, rfl⟩⟩; (try first | exact ⟨rfl, _, World.drewN_drewN _ _ _⟩ | exact ⟨rfl, _, Eq.trans (World.drewN_drewN _ _ _) (congrArg (World.drewN _) (Nat.add_assoc _ _ _))⟩))); try go_wp2_with (first | (go_at_call 30; (with_reducible refine (ferryref10_unsigned.calls a1 a2 t122 _ A16.out).mono ?_); rintro e w' ⟨rfl, ⟨nd, rfl⟩⟩; (try first | exact ⟨rfl, _, World.drewN_drewN _ _ _⟩ | exact ⟨rfl, _, Eq.trans (World.drewN_drewN _ _ _) (congrArg (World.drewN _) (Nat.add_assoc _ _ _))⟩)) | (go_at_call 28; (with_reducible refine (ferryref10_halves.calls (IntKind.u64.wrap ((Go.bits .or .u64 (IntKind.u64.wrap ((IntKind.u64.wrap (a3)) * 4294967296)) (IntKind.u64.wrap (a4))) + t122)) t123 t124 _ A17.out).mono ?_); rintro e w' ⟨rfl, ⟨nd, rfl⟩⟩; (try first | exact ⟨rfl, _, World.drewN_drewN _ _ _⟩ | exact ⟨rfl, _, Eq.trans (World.drewN_drewN _ _ _) (congrArg (World.drewN _) (Nat.add_assoc _ _ _))⟩))))
          go_ret2
          exact ⟨by first | rfl | (simp; done) | (simp [*]; done), by repeat (first | exact Drawn0.refl _ | apply Drawn0.step)⟩
        · rw [if_neg c15] at H
          have c15b0 : (a0.toList == ([109, 97, 100, 100, 117] : List UInt8)) = false := beq_eq_false_iff_ne.mpr c15
          have c15b1 : (a0.toList != ([109, 97, 100, 100, 117] : List UInt8)) = true := bne_iff_ne.mpr c15
          by_cases c18 : a0.toList = ([109, 115, 117, 98] : List UInt8)
          · rw [if_pos c18] at H
            have c18b0 : (a0.toList == ([109, 115, 117, 98] : List UInt8)) = true := beq_iff_eq.mpr c18
            have c18b1 : (a0.toList != ([109, 115, 117, 98] : List UInt8)) = false := bne_eq_false_iff_eq.mpr c18
            clear c18
            replace H := Option.bind_eq_some_iff.mp H
            obtain ⟨t125, A190, H⟩ := H
            replace H : ((ferryref10_halves.f (IntKind.u64.wrap ((Go.bits .or .u64 (IntKind.u64.wrap ((IntKind.u64.wrap (a3)) * 4294967296)) (IntKind.u64.wrap (a4))) - t125))).bind fun bt126 => (some (bt126.1, bt126.2))) = some (r1, r2) := H
            have A19 := Aside0.mk A190
            clear A190
            replace H := Option.bind_eq_some_iff.mp H
            obtain ⟨⟨t126, t127⟩, A200, H⟩ := H
            replace H : (some (t126, t127)) = some (r1, r2) := H
            have A20 := Aside0.mk A200
            clear A200
            simp only [Option.some.injEq, Prod.mk.injEq] at H
            obtain ⟨rfl, rfl⟩ := H
            go_enter Tryd.func9, Tryd.ntmps9
            go_wp2_with (first | (go_at_call 29; (with_reducible refine (ferryref10_signed.calls a1 a2 t125 _ A19.out).mono ?_); rintro e w' ⟨rfl, ⟨nd, rfl⟩⟩; (try first | exact ⟨rfl, _, World.drewN_drewN _ _ _⟩ | exact ⟨rfl, _, Eq.trans (World.drewN_drewN _ _ _) (congrArg (World.drewN _) (Nat.add_assoc _ _ _))⟩)) | (go_at_call 28; (with_reducible refine (ferryref10_halves.calls (IntKind.u64.wrap ((Go.bits .or .u64 (IntKind.u64.wrap ((IntKind.u64.wrap (a3)) * 4294967296)) (IntKind.u64.wrap (a4))) - t125)) t126 t127 _ A20.out).mono ?_); rintro e w' ⟨rfl, ⟨nd, rfl⟩⟩; (try first | exact ⟨rfl, _, World.drewN_drewN _ _ _⟩ | exact ⟨rfl, _, Eq.trans (World.drewN_drewN _ _ _) (congrArg (World.drewN _) (Nat.add_assoc _ _ _))⟩)))
            repeat (go_quiet (first | (go_at_call 29; (with_reducible refine (ferryref10_signed.calls a1 a2 t125 _ A19.out).mono ?_); rintro e w' ⟨rfl, ⟨nd, rfl⟩⟩; (try first | exact ⟨rfl, _, World.drewN_drewN _ _ _⟩ | exact ⟨rfl, _, Eq.trans (World.drewN_drewN _ _ _) (congrArg (World.drewN _) (Nat.add_assoc _ _ _))⟩)) | (go_at_call 28; (with_reducible refine (ferryref10_halves.calls (IntKind.u64.wrap ((Go.bits .or .u64 (IntKind.u64.wrap ((IntKind.u64.wrap (a3)) * 4294967296)) (IntKind.u64.wrap (a4))) - t125)) t126 t127 _ A20.out).mono ?_); rintro e w' ⟨rfl, ⟨nd, rfl⟩⟩; (try first | exact ⟨rfl, _, World.drewN_drewN _ _ _⟩ | exact ⟨rfl, _, Eq.trans (World.drewN_drewN _ _ _) (congrArg (World.drewN _) (Nat.add_assoc _ _ _))⟩))); try go_wp2_with (first | (go_at_call 29; (with_reducible refine (ferryref10_signed.calls a1 a2 t125 _ A19.out).mono ?_); rintro e w' ⟨rfl, ⟨nd, rfl⟩⟩; (try first | exact ⟨rfl, _, World.drewN_drewN _ _ _⟩ | exact ⟨rfl, _, Eq.trans (World.drewN_drewN _ _ _) (congrArg (World.drewN _) (Nat.add_assoc _ _ _))⟩)) | (go_at_call 28; (with_reducible refine (ferryref10_halves.calls (IntKind.u64.wrap ((Go.bits .or .u64 (IntKind.u64.wrap ((IntKind.u64.wrap (a3)) * 4294967296)) (IntKind.u64.wrap (a4))) - t125)) t126 t127 _ A20.out).mono ?_); rintro e w' ⟨rfl, ⟨nd, rfl⟩⟩; (try first | exact ⟨rfl, _, World.drewN_drewN _ _ _⟩ | exact ⟨rfl, _, Eq.trans (World.drewN_drewN _ _ _) (congrArg (World.drewN _) (Nat.add_assoc _ _ _))⟩))))
            go_ret2
            exact ⟨by first | rfl | (simp; done) | (simp [*]; done), by repeat (first | exact Drawn0.refl _ | apply Drawn0.step)⟩
          · rw [if_neg c18] at H
            have c18b0 : (a0.toList == ([109, 115, 117, 98] : List UInt8)) = false := beq_eq_false_iff_ne.mpr c18
            have c18b1 : (a0.toList != ([109, 115, 117, 98] : List UInt8)) = true := bne_iff_ne.mpr c18
            by_cases c21 : a0.toList = ([109, 115, 117, 98, 117] : List UInt8)
            · rw [if_pos c21] at H
              have c21b0 : (a0.toList == ([109, 115, 117, 98, 117] : List UInt8)) = true := beq_iff_eq.mpr c21
              have c21b1 : (a0.toList != ([109, 115, 117, 98, 117] : List UInt8)) = false := bne_eq_false_iff_eq.mpr c21
              clear c21
              replace H := Option.bind_eq_some_iff.mp H
              obtain ⟨t128, A220, H⟩ := H
              replace H : ((ferryref10_halves.f (IntKind.u64.wrap ((Go.bits .or .u64 (IntKind.u64.wrap ((IntKind.u64.wrap (a3)) * 4294967296)) (IntKind.u64.wrap (a4))) - t128))).bind fun bt129 => (some (bt129.1, bt129.2))) = some (r1, r2) := H
              have A22 := Aside0.mk A220
              clear A220
              replace H := Option.bind_eq_some_iff.mp H
              obtain ⟨⟨t129, t130⟩, A230, H⟩ := H
              replace H : (some (t129, t130)) = some (r1, r2) := H
              have A23 := Aside0.mk A230
              clear A230
              simp only [Option.some.injEq, Prod.mk.injEq] at H
              obtain ⟨rfl, rfl⟩ := H
              go_enter Tryd.func9, Tryd.ntmps9
              go_wp2_with (first | (go_at_call 30; (with_reducible refine (ferryref10_unsigned.calls a1 a2 t128 _ A22.out).mono ?_); rintro e w' ⟨rfl, ⟨nd, rfl⟩⟩; (try first | exact ⟨rfl, _, World.drewN_drewN _ _ _⟩ | exact ⟨rfl, _, Eq.trans (World.drewN_drewN _ _ _) (congrArg (World.drewN _) (Nat.add_assoc _ _ _))⟩)) | (go_at_call 28; (with_reducible refine (ferryref10_halves.calls (IntKind.u64.wrap ((Go.bits .or .u64 (IntKind.u64.wrap ((IntKind.u64.wrap (a3)) * 4294967296)) (IntKind.u64.wrap (a4))) - t128)) t129 t130 _ A23.out).mono ?_); rintro e w' ⟨rfl, ⟨nd, rfl⟩⟩; (try first | exact ⟨rfl, _, World.drewN_drewN _ _ _⟩ | exact ⟨rfl, _, Eq.trans (World.drewN_drewN _ _ _) (congrArg (World.drewN _) (Nat.add_assoc _ _ _))⟩)))
              repeat (go_quiet (first | (go_at_call 30; (with_reducible refine (ferryref10_unsigned.calls a1 a2 t128 _ A22.out).mono ?_); rintro e w' ⟨rfl, ⟨nd, rfl⟩⟩; (try first | exact ⟨rfl, _, World.drewN_drewN _ _ _⟩ | exact ⟨rfl, _, Eq.trans (World.drewN_drewN _ _ _) (congrArg (World.drewN _) (Nat.add_assoc _ _ _))⟩)) | (go_at_call 28; (with_reducible refine (ferryref10_halves.calls (IntKind.u64.wrap ((Go.bits .or .u64 (IntKind.u64.wrap ((IntKind.u64.wrap (a3)) * 4294967296)) (IntKind.u64.wrap (a4))) - t128)) t129 t130 _ A23.out).mono ?_); rintro e w' ⟨rfl, ⟨nd, rfl⟩⟩; (try first | exact ⟨rfl, _, World.drewN_drewN _ _ _⟩ | exact ⟨rfl, _, Eq.trans (World.drewN_drewN _ _ _) (congrArg (World.drewN _) (Nat.add_assoc _ _ _))⟩))); try go_wp2_with (first | (go_at_call 30; (with_reducible refine (ferryref10_unsigned.calls a1 a2 t128 _ A22.out).mono ?_); rintro e w' ⟨rfl, ⟨nd, rfl⟩⟩; (try first | exact ⟨rfl, _, World.drewN_drewN _ _ _⟩ | exact ⟨rfl, _, Eq.trans (World.drewN_drewN _ _ _) (congrArg (World.drewN _) (Nat.add_assoc _ _ _))⟩)) | (go_at_call 28; (with_reducible refine (ferryref10_halves.calls (IntKind.u64.wrap ((Go.bits .or .u64 (IntKind.u64.wrap ((IntKind.u64.wrap (a3)) * 4294967296)) (IntKind.u64.wrap (a4))) - t128)) t129 t130 _ A23.out).mono ?_); rintro e w' ⟨rfl, ⟨nd, rfl⟩⟩; (try first | exact ⟨rfl, _, World.drewN_drewN _ _ _⟩ | exact ⟨rfl, _, Eq.trans (World.drewN_drewN _ _ _) (congrArg (World.drewN _) (Nat.add_assoc _ _ _))⟩))))
              go_ret2
              exact ⟨by first | rfl | (simp; done) | (simp [*]; done), by repeat (first | exact Drawn0.refl _ | apply Drawn0.step)⟩
            · rw [if_neg c21] at H
              have c21b0 : (a0.toList == ([109, 115, 117, 98, 117] : List UInt8)) = false := beq_eq_false_iff_ne.mpr c21
              have c21b1 : (a0.toList != ([109, 115, 117, 98, 117] : List UInt8)) = true := bne_iff_ne.mpr c21
              by_cases c24 : a0.toList = ([109, 116, 104, 105] : List UInt8)
              · rw [if_pos c24] at H
                have c24b0 : (a0.toList == ([109, 116, 104, 105] : List UInt8)) = true := beq_iff_eq.mpr c24
                have c24b1 : (a0.toList != ([109, 116, 104, 105] : List UInt8)) = false := bne_eq_false_iff_eq.mpr c24
                clear c24
                simp only [Option.some.injEq, Prod.mk.injEq] at H
                obtain ⟨rfl, rfl⟩ := H
                go_enter Tryd.func9, Tryd.ntmps9
                go_wp2
                repeat (go_quiet (fail); try go_wp2)
                go_ret2
                exact ⟨by first | rfl | (simp; done) | (simp [*]; done), by repeat (first | exact Drawn0.refl _ | apply Drawn0.step)⟩
              · rw [if_neg c24] at H
                have c24b0 : (a0.toList == ([109, 116, 104, 105] : List UInt8)) = false := beq_eq_false_iff_ne.mpr c24
                have c24b1 : (a0.toList != ([109, 116, 104, 105] : List UInt8)) = true := bne_iff_ne.mpr c24
                by_cases c25 : a0.toList = ([109, 116, 108, 111] : List UInt8)
                · rw [if_pos c25] at H
                  have c25b0 : (a0.toList == ([109, 116, 108, 111] : List UInt8)) = true := beq_iff_eq.mpr c25
                  have c25b1 : (a0.toList != ([109, 116, 108, 111] : List UInt8)) = false := bne_eq_false_iff_eq.mpr c25
                  clear c25
                  simp only [Option.some.injEq, Prod.mk.injEq] at H
                  obtain ⟨rfl, rfl⟩ := H
                  go_enter Tryd.func9, Tryd.ntmps9
                  go_wp2
                  repeat (go_quiet (fail); try go_wp2)
                  go_ret2
                  exact ⟨by first | rfl | (simp; done) | (simp [*]; done), by repeat (first | exact Drawn0.refl _ | apply Drawn0.step)⟩
                · rw [if_neg c25] at H
                  have c25b0 : (a0.toList == ([109, 116, 108, 111] : List UInt8)) = false := beq_eq_false_iff_ne.mpr c25
                  have c25b1 : (a0.toList != ([109, 116, 108, 111] : List UInt8)) = true := bne_iff_ne.mpr c25
                  have HC26 := Aside0.mk H
                  clear H
                  go_enter Tryd.func9, Tryd.ntmps9
                  go_upto_if 84 with (fail)
                  repeat (go_quiet (fail); go_upto_if 84 with (fail))
                  go_cut [84] (fun v84 wc => ∃ (kq : Nat) (x84_25 : Bool), v84 = .bool x84_25 ∧ Aside0 (ferryref10_Do.j0 kq a0 a1 a2 a3 a4 x84_25 = some (r1, r2)) ∧ Aside0 (kq ≤ k) ∧ Drawn0 w wc)
                  case first =>
                    have H := HC26.out
                    clear HC26
                    by_cases c27 : a0.toList = ([100, 105, 118] : List UInt8)
                    · rw [if_pos c27] at H
                      have c27b0 : (a0.toList == ([100, 105, 118] : List UInt8)) = true := beq_iff_eq.mpr c27
                      have c27b1 : (a0.toList != ([100, 105, 118] : List UInt8)) = false := bne_eq_false_iff_eq.mpr c27
                      clear c27
                      (first | rw [c27b0] | (simp only [i64_w, i32_w]; rw [c27b0]) | skip)
                      have H' := Aside0.mk H
                      clear H
                      go_wp2
                      repeat (go_quiet (fail); try go_wp2)
                      go_meet
                      case rel => exact ⟨_, ((a0.toList == ([100, 105, 118] : List UInt8))), (by first | rfl | (simp; done) | (simp [*]; done)), H', ⟨by first | omega | exact Nat.le_refl _⟩, by repeat (first | exact Drawn0.refl _ | apply Drawn0.step)⟩
                    · rw [if_neg c27] at H
                      have c27b0 : (a0.toList == ([100, 105, 118] : List UInt8)) = false := beq_eq_false_iff_ne.mpr c27
                      have c27b1 : (a0.toList != ([100, 105, 118] : List UInt8)) = true := bne_iff_ne.mpr c27
                      (first | rw [c27b0] | (simp only [i64_w, i32_w]; rw [c27b0]) | skip)
                      have H' := Aside0.mk H
                      clear H
                      go_wp2
                      repeat (go_quiet (fail); try go_wp2)
                      go_meet
                      case rel => exact ⟨_, ((a0.toList == ([100, 105, 118, 117] : List UInt8))), (by first | rfl | (simp; done) | (simp [*]; done)), H', ⟨by first | omega | exact Nat.le_refl _⟩, by repeat (first | exact Drawn0.refl _ | apply Drawn0.step)⟩
                  case rest =>
                    clear HC26
                    try clear c1
                    try clear c2
                    try clear p2
                    try clear c6
                    try clear c6b0
                    try clear c6b1
                    try clear c9
                    try clear c9b0
                    try clear c9b1
                    try clear c12
                    try clear c12b0
                    try clear c12b1
                    try clear c15
                    try clear c15b0
                    try clear c15b1
                    try clear c18
                    try clear c18b0
                    try clear c18b1
                    try clear c21
                    try clear c21b0
                    try clear c21b1
                    try clear c24
                    try clear c24b0
                    try clear c24b1
                    try clear c25
                    try clear c25b0
                    try clear c25b1
                    try clear c27
                    try clear c27b0
                    try clear c27b1
                    obtain ⟨kq, x84_25, rfl, HA, HJ25, ⟨mc25, rfl⟩⟩ := hcut
                    cases kq with
                    | zero => exact absurd HA.out (by simp [ferryref10_Do.j0])
                    | succ kj25 =>
                      have H := HA.out
                      clear HA
                      simp only [ferryref10_Do.j0] at H
                      by_cases c28 : x84_25 = true
                      · subst c28
                        have H1 : (if a2 = 0 then (some (a1, 4294967295)) else (if a0.toList = ([100, 105, 118] : List UInt8) then ((ferryref10_part.f a1 a2).bind fun bt131 => (some (bt131.1, bt131.2))) else (some (Int.tmod a1 a2, (Int.tdiv a1 a2) % 4294967296)))) = some (r1, r2) := by rw [if_pos rfl] at H; exact H
                        clear H
                        have H := H1
                        clear H1
                        by_cases c29 : a2 = 0
                        · rw [if_pos c29] at H
                          have c29b0 : (a2 == 0) = true := beq_iff_eq.mpr c29
                          have c29b1 : (a2 != 0) = false := bne_eq_false_iff_eq.mpr c29
                          clear c29
                          simp only [Option.some.injEq, Prod.mk.injEq] at H
                          obtain ⟨rfl, rfl⟩ := H
                          go_wp2
                          repeat (go_quiet (fail); try go_wp2)
                          go_ret2
                          exact ⟨by first | rfl | (simp; done) | (simp [*]; done), by repeat (first | exact Drawn0.refl _ | apply Drawn0.step)⟩
                        · rw [if_neg c29] at H
                          have c29b0 : (a2 == 0) = false := beq_eq_false_iff_ne.mpr c29
                          have c29b1 : (a2 != 0) = true := bne_iff_ne.mpr c29
                          by_cases c30 : a0.toList = ([100, 105, 118] : List UInt8)
                          · rw [if_pos c30] at H
                            have c30b0 : (a0.toList == ([100, 105, 118] : List UInt8)) = true := beq_iff_eq.mpr c30
                            have c30b1 : (a0.toList != ([100, 105, 118] : List UInt8)) = false := bne_eq_false_iff_eq.mpr c30
                            clear c30
                            replace H := Option.bind_eq_some_iff.mp H
                            obtain ⟨⟨t131, t132⟩, A310, H⟩ := H
                            replace H : (some (t131, t132)) = some (r1, r2) := H
                            have A31 := Aside0.mk A310
                            clear A310
                            simp only [Option.some.injEq, Prod.mk.injEq] at H
                            obtain ⟨rfl, rfl⟩ := H
                            go_wp2_with (first | (go_at_call 31; (with_reducible refine (ferryref10_part.calls a1 a2 t131 t132 _ A31.out).mono ?_); rintro e w' ⟨rfl, ⟨nd, rfl⟩⟩; (try first | exact ⟨rfl, _, World.drewN_drewN _ _ _⟩ | exact ⟨rfl, _, Eq.trans (World.drewN_drewN _ _ _) (congrArg (World.drewN _) (Nat.add_assoc _ _ _))⟩)))
                            repeat (go_quiet (first | (go_at_call 31; (with_reducible refine (ferryref10_part.calls a1 a2 t131 t132 _ A31.out).mono ?_); rintro e w' ⟨rfl, ⟨nd, rfl⟩⟩; (try first | exact ⟨rfl, _, World.drewN_drewN _ _ _⟩ | exact ⟨rfl, _, Eq.trans (World.drewN_drewN _ _ _) (congrArg (World.drewN _) (Nat.add_assoc _ _ _))⟩))); try go_wp2_with (first | (go_at_call 31; (with_reducible refine (ferryref10_part.calls a1 a2 t131 t132 _ A31.out).mono ?_); rintro e w' ⟨rfl, ⟨nd, rfl⟩⟩; (try first | exact ⟨rfl, _, World.drewN_drewN _ _ _⟩ | exact ⟨rfl, _, Eq.trans (World.drewN_drewN _ _ _) (congrArg (World.drewN _) (Nat.add_assoc _ _ _))⟩))))
                            go_ret2
                            exact ⟨by first | rfl | (simp; done) | (simp [*]; done), by repeat (first | exact Drawn0.refl _ | apply Drawn0.step)⟩
                          · rw [if_neg c30] at H
                            have c30b0 : (a0.toList == ([100, 105, 118] : List UInt8)) = false := beq_eq_false_iff_ne.mpr c30
                            have c30b1 : (a0.toList != ([100, 105, 118] : List UInt8)) = true := bne_iff_ne.mpr c30
                            simp only [Option.some.injEq, Prod.mk.injEq] at H
                            obtain ⟨rfl, rfl⟩ := H
                            go_wp2
                            repeat (go_quiet (fail); try go_wp2)
                            go_ret2
                            exact ⟨by first | rfl | (simp; done) | (simp [*]; done), by repeat (first | exact Drawn0.refl _ | apply Drawn0.step)⟩
                      · replace c28 := Bool.eq_false_iff.mpr c28
                        subst c28
                        have H1 : (some (a3, a4)) = some (r1, r2) := by rw [if_neg (show ¬ (false = true) by decide)] at H; exact H
                        clear H
                        have H := H1
                        clear H1
                        simp only [Option.some.injEq, Prod.mk.injEq] at H
                        obtain ⟨rfl, rfl⟩ := H
                        go_wp2
                        repeat (go_quiet (fail); try go_wp2)
                        go_ret2
                        exact ⟨by first | rfl | (simp; done) | (simp [*]; done), by repeat (first | exact Drawn0.refl _ | apply Drawn0.step)⟩

end Go.Proofs.YtommcnppgodhgaaDoor.F
