/- Functions of this seat's program, each as a plain Lean function, and what a call of each comes to. No condition. -/
import Derived.Test.YtommcnppgodhgaaDoorF0
import Derived.Test.YtommcnppgodhgaaDoorFFerryref10Size
namespace Go.Proofs.YtommcnppgodhgaaDoor.F
open Go.RowKit Go.Proofs.YtommcnppgodhgaaDoorW.PrintWords Go.Proofs.YtommcnppgodhgaaDoorW.PrintLast Go.Proofs.YtommcnppgodhgaaDoorW.PrintMore
attribute [local go_sem] max2_int min2_int max_two min_two max_three min_three max_four min_four   -- for this text's walks alone
set_option linter.unusedVariables false
set_option linter.unusedSimpArgs false

/-! ### ferryref10_part: function 31 -/
def ferryref10_part.f (a0 : Int) (a1 : Int) : Option (Int × Int) := (ferryref10_size.f a0).bind fun t109 => ((ferryref10_size.f a1).bind fun t110 => (if t110 = 0 then (none) else ((ferryref10_size.f a0).bind fun t111 => ((ferryref10_size.f a1).bind fun t112 => (if t112 = 0 then (none) else (if (a0 / 2147483648) = (a1 / 2147483648) then (if (a0 / 2147483648) = 1 then (some ((-(Int.tmod t111 t112)) % 4294967296, (Int.tdiv t109 t110) % 4294967296)) else (some (Int.tmod t111 t112, (Int.tdiv t109 t110) % 4294967296))) else (if (a0 / 2147483648) = 1 then (some ((-(Int.tmod t111 t112)) % 4294967296, (-((Int.tdiv t109 t110) % 4294967296)) % 4294967296)) else (some (Int.tmod t111 t112, (-((Int.tdiv t109 t110) % 4294967296)) % 4294967296)))))))))
set_option maxHeartbeats 8000000 in
set_option maxRecDepth 100000 in
theorem ferryref10_part.calls (a0 : Int) (a1 : Int) (r1 : Int) (r2 : Int) (w : World) (h : ferryref10_part.f a0 a1 = some (r1, r2)) :
    Calls Tryd.prog 31 #[.int .u32 a0, .int .u32 a1] w fun e w' => e = .returned (.tuple #[.int .u32 r1, .int .u32 r2]) ∧ Drawn0 w w' := by
  have H : ((ferryref10_size.f a0).bind fun t109 => ((ferryref10_size.f a1).bind fun t110 => (if t110 = 0 then (none) else ((ferryref10_size.f a0).bind fun t111 => ((ferryref10_size.f a1).bind fun t112 => (if t112 = 0 then (none) else (if (a0 / 2147483648) = (a1 / 2147483648) then (if (a0 / 2147483648) = 1 then (some ((-(Int.tmod t111 t112)) % 4294967296, (Int.tdiv t109 t110) % 4294967296)) else (some (Int.tmod t111 t112, (Int.tdiv t109 t110) % 4294967296))) else (if (a0 / 2147483648) = 1 then (some ((-(Int.tmod t111 t112)) % 4294967296, (-((Int.tdiv t109 t110) % 4294967296)) % 4294967296)) else (some (Int.tmod t111 t112, (-((Int.tdiv t109 t110) % 4294967296)) % 4294967296)))))))))) = some (r1, r2) := h
  clear h
  replace H := Option.bind_eq_some_iff.mp H
  obtain ⟨t109, A30, H⟩ := H
  replace H : ((ferryref10_size.f a1).bind fun t110 => (if t110 = 0 then (none) else ((ferryref10_size.f a0).bind fun t111 => ((ferryref10_size.f a1).bind fun t112 => (if t112 = 0 then (none) else (if (a0 / 2147483648) = (a1 / 2147483648) then (if (a0 / 2147483648) = 1 then (some ((-(Int.tmod t111 t112)) % 4294967296, (Int.tdiv t109 t110) % 4294967296)) else (some (Int.tmod t111 t112, (Int.tdiv t109 t110) % 4294967296))) else (if (a0 / 2147483648) = 1 then (some ((-(Int.tmod t111 t112)) % 4294967296, (-((Int.tdiv t109 t110) % 4294967296)) % 4294967296)) else (some (Int.tmod t111 t112, (-((Int.tdiv t109 t110) % 4294967296)) % 4294967296))))))))) = some (r1, r2) := H
  have A3 := Aside0.mk A30
  clear A30
  replace H := Option.bind_eq_some_iff.mp H
  obtain ⟨t110, A40, H⟩ := H
  replace H : (if t110 = 0 then (none) else ((ferryref10_size.f a0).bind fun t111 => ((ferryref10_size.f a1).bind fun t112 => (if t112 = 0 then (none) else (if (a0 / 2147483648) = (a1 / 2147483648) then (if (a0 / 2147483648) = 1 then (some ((-(Int.tmod t111 t112)) % 4294967296, (Int.tdiv t109 t110) % 4294967296)) else (some (Int.tmod t111 t112, (Int.tdiv t109 t110) % 4294967296))) else (if (a0 / 2147483648) = 1 then (some ((-(Int.tmod t111 t112)) % 4294967296, (-((Int.tdiv t109 t110) % 4294967296)) % 4294967296)) else (some (Int.tmod t111 t112, (-((Int.tdiv t109 t110) % 4294967296)) % 4294967296)))))))) = some (r1, r2) := H
  have A4 := Aside0.mk A40
  clear A40
  by_cases c5 : t110 = 0
  · rw [if_pos c5] at H
    exact absurd H (by simp)
  · rw [if_neg c5] at H
    have c5b0 : (t110 == 0) = false := beq_eq_false_iff_ne.mpr c5
    have c5b1 : (t110 != 0) = true := bne_iff_ne.mpr c5
    replace H := Option.bind_eq_some_iff.mp H
    obtain ⟨t111, A60, H⟩ := H
    replace H : ((ferryref10_size.f a1).bind fun t112 => (if t112 = 0 then (none) else (if (a0 / 2147483648) = (a1 / 2147483648) then (if (a0 / 2147483648) = 1 then (some ((-(Int.tmod t111 t112)) % 4294967296, (Int.tdiv t109 t110) % 4294967296)) else (some (Int.tmod t111 t112, (Int.tdiv t109 t110) % 4294967296))) else (if (a0 / 2147483648) = 1 then (some ((-(Int.tmod t111 t112)) % 4294967296, (-((Int.tdiv t109 t110) % 4294967296)) % 4294967296)) else (some (Int.tmod t111 t112, (-((Int.tdiv t109 t110) % 4294967296)) % 4294967296)))))) = some (r1, r2) := H
    have A6 := Aside0.mk A60
    clear A60
    replace H := Option.bind_eq_some_iff.mp H
    obtain ⟨t112, A70, H⟩ := H
    replace H : (if t112 = 0 then (none) else (if (a0 / 2147483648) = (a1 / 2147483648) then (if (a0 / 2147483648) = 1 then (some ((-(Int.tmod t111 t112)) % 4294967296, (Int.tdiv t109 t110) % 4294967296)) else (some (Int.tmod t111 t112, (Int.tdiv t109 t110) % 4294967296))) else (if (a0 / 2147483648) = 1 then (some ((-(Int.tmod t111 t112)) % 4294967296, (-((Int.tdiv t109 t110) % 4294967296)) % 4294967296)) else (some (Int.tmod t111 t112, (-((Int.tdiv t109 t110) % 4294967296)) % 4294967296))))) = some (r1, r2) := H
    have A7 := Aside0.mk A70
    clear A70
    by_cases c8 : t112 = 0
    · rw [if_pos c8] at H
      exact absurd H (by simp)
    · rw [if_neg c8] at H
      have c8b0 : (t112 == 0) = false := beq_eq_false_iff_ne.mpr c8
      have c8b1 : (t112 != 0) = true := bne_iff_ne.mpr c8
      by_cases c9 : (a0 / 2147483648) = (a1 / 2147483648)
      · rw [if_pos c9] at H
        have c9b0 : ((a0 / 2147483648) == (a1 / 2147483648)) = true := beq_iff_eq.mpr c9
        have c9b1 : ((a0 / 2147483648) != (a1 / 2147483648)) = false := bne_eq_false_iff_eq.mpr c9
        clear c9
        by_cases c10 : (a0 / 2147483648) = 1
        · rw [if_pos c10] at H
          have c10b0 : ((a0 / 2147483648) == 1) = true := beq_iff_eq.mpr c10
          have c10b1 : ((a0 / 2147483648) != 1) = false := bne_eq_false_iff_eq.mpr c10
          clear c10
          simp only [Option.some.injEq, Prod.mk.injEq] at H
          obtain ⟨rfl, rfl⟩ := H
          go_enter Tryd.func31, Tryd.ntmps31
          go_wp2_with (first | ((with_reducible refine gate_callee (f := 39) rfl ?_); refine goesL_ (some 9) rfl rfl Tryd.func39 (by kernel_rfl) rfl #[.int .u32 a0] rfl (by (try simp only [List.map_toArray, List.map_cons, List.map_nil]); first | done | rfl | (simp only [List.length_drop, List.length_take]; rfl)) ?_; (with_reducible refine (ferryref10_size.calls a0 t109 _ A3.out).mono ?_); rintro e w' ⟨rfl, ⟨nd, rfl⟩⟩; refine ⟨_, rfl, ?_⟩) | ((with_reducible refine gate_callee (f := 39) rfl ?_); refine goesL_ (some 11) rfl rfl Tryd.func39 (by kernel_rfl) rfl #[.int .u32 a1] rfl (by (try simp only [List.map_toArray, List.map_cons, List.map_nil]); first | done | rfl | (simp only [List.length_drop, List.length_take]; rfl)) ?_; (with_reducible refine (ferryref10_size.calls a1 t110 _ A4.out).mono ?_); rintro e w' ⟨rfl, ⟨nd, rfl⟩⟩; refine ⟨_, rfl, ?_⟩) | ((with_reducible refine gate_callee (f := 39) rfl ?_); refine goesL_ (some 14) rfl rfl Tryd.func39 (by kernel_rfl) rfl #[.int .u32 a0] rfl (by (try simp only [List.map_toArray, List.map_cons, List.map_nil]); first | done | rfl | (simp only [List.length_drop, List.length_take]; rfl)) ?_; (with_reducible refine (ferryref10_size.calls a0 t111 _ A6.out).mono ?_); rintro e w' ⟨rfl, ⟨nd, rfl⟩⟩; refine ⟨_, rfl, ?_⟩) | ((with_reducible refine gate_callee (f := 39) rfl ?_); refine goesL_ (some 16) rfl rfl Tryd.func39 (by kernel_rfl) rfl #[.int .u32 a1] rfl (by (try simp only [List.map_toArray, List.map_cons, List.map_nil]); first | done | rfl | (simp only [List.length_drop, List.length_take]; rfl)) ?_; (with_reducible refine (ferryref10_size.calls a1 t112 _ A7.out).mono ?_); rintro e w' ⟨rfl, ⟨nd, rfl⟩⟩; refine ⟨_, rfl, ?_⟩))
          go_ret2
          exact ⟨by first | rfl | (simp; done) | (simp [*]; done), by repeat (first | exact Drawn0.refl _ | apply Drawn0.step)⟩
        · rw [if_neg c10] at H
          have c10b0 : ((a0 / 2147483648) == 1) = false := beq_eq_false_iff_ne.mpr c10
          have c10b1 : ((a0 / 2147483648) != 1) = true := bne_iff_ne.mpr c10
          simp only [Option.some.injEq, Prod.mk.injEq] at H
          obtain ⟨rfl, rfl⟩ := H
          go_enter Tryd.func31, Tryd.ntmps31
          go_wp2_with (first | ((with_reducible refine gate_callee (f := 39) rfl ?_); refine goesL_ (some 9) rfl rfl Tryd.func39 (by kernel_rfl) rfl #[.int .u32 a0] rfl (by (try simp only [List.map_toArray, List.map_cons, List.map_nil]); first | done | rfl | (simp only [List.length_drop, List.length_take]; rfl)) ?_; (with_reducible refine (ferryref10_size.calls a0 t109 _ A3.out).mono ?_); rintro e w' ⟨rfl, ⟨nd, rfl⟩⟩; refine ⟨_, rfl, ?_⟩) | ((with_reducible refine gate_callee (f := 39) rfl ?_); refine goesL_ (some 11) rfl rfl Tryd.func39 (by kernel_rfl) rfl #[.int .u32 a1] rfl (by (try simp only [List.map_toArray, List.map_cons, List.map_nil]); first | done | rfl | (simp only [List.length_drop, List.length_take]; rfl)) ?_; (with_reducible refine (ferryref10_size.calls a1 t110 _ A4.out).mono ?_); rintro e w' ⟨rfl, ⟨nd, rfl⟩⟩; refine ⟨_, rfl, ?_⟩) | ((with_reducible refine gate_callee (f := 39) rfl ?_); refine goesL_ (some 14) rfl rfl Tryd.func39 (by kernel_rfl) rfl #[.int .u32 a0] rfl (by (try simp only [List.map_toArray, List.map_cons, List.map_nil]); first | done | rfl | (simp only [List.length_drop, List.length_take]; rfl)) ?_; (with_reducible refine (ferryref10_size.calls a0 t111 _ A6.out).mono ?_); rintro e w' ⟨rfl, ⟨nd, rfl⟩⟩; refine ⟨_, rfl, ?_⟩) | ((with_reducible refine gate_callee (f := 39) rfl ?_); refine goesL_ (some 16) rfl rfl Tryd.func39 (by kernel_rfl) rfl #[.int .u32 a1] rfl (by (try simp only [List.map_toArray, List.map_cons, List.map_nil]); first | done | rfl | (simp only [List.length_drop, List.length_take]; rfl)) ?_; (with_reducible refine (ferryref10_size.calls a1 t112 _ A7.out).mono ?_); rintro e w' ⟨rfl, ⟨nd, rfl⟩⟩; refine ⟨_, rfl, ?_⟩))
          go_ret2
          exact ⟨by first | rfl | (simp; done) | (simp [*]; done), by repeat (first | exact Drawn0.refl _ | apply Drawn0.step)⟩
      · rw [if_neg c9] at H
        have c9b0 : ((a0 / 2147483648) == (a1 / 2147483648)) = false := beq_eq_false_iff_ne.mpr c9
        have c9b1 : ((a0 / 2147483648) != (a1 / 2147483648)) = true := bne_iff_ne.mpr c9
        by_cases c11 : (a0 / 2147483648) = 1
        · rw [if_pos c11] at H
          have c11b0 : ((a0 / 2147483648) == 1) = true := beq_iff_eq.mpr c11
          have c11b1 : ((a0 / 2147483648) != 1) = false := bne_eq_false_iff_eq.mpr c11
          clear c11
          simp only [Option.some.injEq, Prod.mk.injEq] at H
          obtain ⟨rfl, rfl⟩ := H
          go_enter Tryd.func31, Tryd.ntmps31
          go_wp2_with (first | ((with_reducible refine gate_callee (f := 39) rfl ?_); refine goesL_ (some 9) rfl rfl Tryd.func39 (by kernel_rfl) rfl #[.int .u32 a0] rfl (by (try simp only [List.map_toArray, List.map_cons, List.map_nil]); first | done | rfl | (simp only [List.length_drop, List.length_take]; rfl)) ?_; (with_reducible refine (ferryref10_size.calls a0 t109 _ A3.out).mono ?_); rintro e w' ⟨rfl, ⟨nd, rfl⟩⟩; refine ⟨_, rfl, ?_⟩) | ((with_reducible refine gate_callee (f := 39) rfl ?_); refine goesL_ (some 11) rfl rfl Tryd.func39 (by kernel_rfl) rfl #[.int .u32 a1] rfl (by (try simp only [List.map_toArray, List.map_cons, List.map_nil]); first | done | rfl | (simp only [List.length_drop, List.length_take]; rfl)) ?_; (with_reducible refine (ferryref10_size.calls a1 t110 _ A4.out).mono ?_); rintro e w' ⟨rfl, ⟨nd, rfl⟩⟩; refine ⟨_, rfl, ?_⟩) | ((with_reducible refine gate_callee (f := 39) rfl ?_); refine goesL_ (some 14) rfl rfl Tryd.func39 (by kernel_rfl) rfl #[.int .u32 a0] rfl (by (try simp only [List.map_toArray, List.map_cons, List.map_nil]); first | done | rfl | (simp only [List.length_drop, List.length_take]; rfl)) ?_; (with_reducible refine (ferryref10_size.calls a0 t111 _ A6.out).mono ?_); rintro e w' ⟨rfl, ⟨nd, rfl⟩⟩; refine ⟨_, rfl, ?_⟩) | ((with_reducible refine gate_callee (f := 39) rfl ?_); refine goesL_ (some 16) rfl rfl Tryd.func39 (by kernel_rfl) rfl #[.int .u32 a1] rfl (by (try simp only [List.map_toArray, List.map_cons, List.map_nil]); first | done | rfl | (simp only [List.length_drop, List.length_take]; rfl)) ?_; (with_reducible refine (ferryref10_size.calls a1 t112 _ A7.out).mono ?_); rintro e w' ⟨rfl, ⟨nd, rfl⟩⟩; refine ⟨_, rfl, ?_⟩))
          go_ret2
          exact ⟨by first | rfl | (simp; done) | (simp [*]; done), by repeat (first | exact Drawn0.refl _ | apply Drawn0.step)⟩
        · rw [if_neg c11] at H
          have c11b0 : ((a0 / 2147483648) == 1) = false := beq_eq_false_iff_ne.mpr c11
          have c11b1 : ((a0 / 2147483648) != 1) = true := bne_iff_ne.mpr c11
          simp only [Option.some.injEq, Prod.mk.injEq] at H
          obtain ⟨rfl, rfl⟩ := H
          go_enter Tryd.func31, Tryd.ntmps31
          go_wp2_with (first | ((with_reducible refine gate_callee (f := 39) rfl ?_); refine goesL_ (some 9) rfl rfl Tryd.func39 (by kernel_rfl) rfl #[.int .u32 a0] rfl (by (try simp only [List.map_toArray, List.map_cons, List.map_nil]); first | done | rfl | (simp only [List.length_drop, List.length_take]; rfl)) ?_; (with_reducible refine (ferryref10_size.calls a0 t109 _ A3.out).mono ?_); rintro e w' ⟨rfl, ⟨nd, rfl⟩⟩; refine ⟨_, rfl, ?_⟩) | ((with_reducible refine gate_callee (f := 39) rfl ?_); refine goesL_ (some 11) rfl rfl Tryd.func39 (by kernel_rfl) rfl #[.int .u32 a1] rfl (by (try simp only [List.map_toArray, List.map_cons, List.map_nil]); first | done | rfl | (simp only [List.length_drop, List.length_take]; rfl)) ?_; (with_reducible refine (ferryref10_size.calls a1 t110 _ A4.out).mono ?_); rintro e w' ⟨rfl, ⟨nd, rfl⟩⟩; refine ⟨_, rfl, ?_⟩) | ((with_reducible refine gate_callee (f := 39) rfl ?_); refine goesL_ (some 14) rfl rfl Tryd.func39 (by kernel_rfl) rfl #[.int .u32 a0] rfl (by (try simp only [List.map_toArray, List.map_cons, List.map_nil]); first | done | rfl | (simp only [List.length_drop, List.length_take]; rfl)) ?_; (with_reducible refine (ferryref10_size.calls a0 t111 _ A6.out).mono ?_); rintro e w' ⟨rfl, ⟨nd, rfl⟩⟩; refine ⟨_, rfl, ?_⟩) | ((with_reducible refine gate_callee (f := 39) rfl ?_); refine goesL_ (some 16) rfl rfl Tryd.func39 (by kernel_rfl) rfl #[.int .u32 a1] rfl (by (try simp only [List.map_toArray, List.map_cons, List.map_nil]); first | done | rfl | (simp only [List.length_drop, List.length_take]; rfl)) ?_; (with_reducible refine (ferryref10_size.calls a1 t112 _ A7.out).mono ?_); rintro e w' ⟨rfl, ⟨nd, rfl⟩⟩; refine ⟨_, rfl, ?_⟩))
          go_ret2
          exact ⟨by first | rfl | (simp; done) | (simp [*]; done), by repeat (first | exact Drawn0.refl _ | apply Drawn0.step)⟩

end Go.Proofs.YtommcnppgodhgaaDoor.F
