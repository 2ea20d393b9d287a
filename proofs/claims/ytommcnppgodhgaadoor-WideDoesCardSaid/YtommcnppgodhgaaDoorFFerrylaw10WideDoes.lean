/- Functions of this seat's program, each as a plain Lean function, and what a call of each comes to. No condition. -/
import Derived.Test.YtommcnppgodhgaaDoorF0
import Derived.Test.YtommcnppgodhgaaDoorFFerryref10Do
import Derived.Test.YtommcnppgodhgaaDoorFFerryref10Known
import Derived.Test.YtommcnppgodhgaaDoorFFerrylaw10Awake
import Derived.Test.YtommcnppgodhgaaDoorHWide
import Derived.Test.YtommcnppgodhgaaDoorHWideDo
namespace Go.Proofs.YtommcnppgodhgaaDoor.F
open Go.RowKit Go.Proofs.YtommcnppgodhgaaDoorW.PrintWords Go.Proofs.YtommcnppgodhgaaDoorW.PrintLast Go.Proofs.YtommcnppgodhgaaDoorW.PrintMore
attribute [local go_sem] max2_int min2_int max_two min_two max_three min_three max_four min_four   -- for this text's walks alone
set_option linter.unusedVariables false
set_option linter.unusedSimpArgs false

/-! ### ferrylaw10_WideDoes: function 3 -/
def ferrylaw10_WideDoes.f (k : Nat) (a0 : ByteArray) (a1 : Int) (a2 : Int) (a3 : Int) (a4 : Int) : Option (Bool) := (wide_Do.f a0 a1 a2 a3 a4).bind fun bt139 => ((ferryref10_Do.f k a0 a1 a2 a3 a4).bind fun bt141 => (if bt139.1 = bt141.1 then (if bt139.2 = bt141.2 then ((wide_Known.f a0).bind fun t143 => ((ferryref10_Known.f a0).bind fun t144 => (if (t143 == t144) = true then ((ferrylaw10_awake.f).bind fun t145 => (some t145)) else (some false)))) else (some false)) else (some false)))
theorem ferrylaw10_WideDoes.mono : ∀ a0 a1 a2 a3 a4 k, LeO (ferrylaw10_WideDoes.f k a0 a1 a2 a3 a4) (ferrylaw10_WideDoes.f (k + 1) a0 a1 a2 a3 a4) := by
  intro a0 a1 a2 a3 a4 k
  unfold ferrylaw10_WideDoes.f
  repeat' first
      | (with_reducible exact ferryref10_Do.mono _ _ _ _ _ _)
      | (with_reducible exact LeO.refl _)
      | (with_reducible exact LeO.none _)
      | (with_reducible refine LeO.ite ?_ ?_)
      | (with_reducible refine LeO.bind ?_ (fun _ => ?_))
      | exact ferryref10_Do.mono _ _ _ _ _ _
      | exact LeO.none _
      | refine LeO.ite ?_ ?_
      | refine LeO.bind ?_ (fun _ => ?_)
set_option maxHeartbeats 8000000 in
set_option maxRecDepth 100000 in
theorem ferrylaw10_WideDoes.calls (k : Nat) (a0 : ByteArray) (a1 : Int) (a2 : Int) (a3 : Int) (a4 : Int) (r : Bool) (w : World) (hL : Laid w) (h : ferrylaw10_WideDoes.f k a0 a1 a2 a3 a4 = some r) :
    Calls Tryd.prog 3 #[.string a0, .int .u32 a1, .int .u32 a2, .int .u32 a3, .int .u32 a4] w fun e w' => e = .returned (.bool r) ∧ Below w.heap.size w w' := by
  have HB := Aside0.mk (Below.refl w.heap.size w)
  have H : ((wide_Do.f a0 a1 a2 a3 a4).bind fun bt139 => ((ferryref10_Do.f k a0 a1 a2 a3 a4).bind fun bt141 => (if bt139.1 = bt141.1 then (if bt139.2 = bt141.2 then ((wide_Known.f a0).bind fun t143 => ((ferryref10_Known.f a0).bind fun t144 => (if (t143 == t144) = true then ((ferrylaw10_awake.f).bind fun t145 => (some t145)) else (some false)))) else (some false)) else (some false)))) = some r := h
  clear h
  replace H := Option.bind_eq_some_iff.mp H
  obtain ⟨⟨t139, t140⟩, A60, H⟩ := H
  replace H : ((ferryref10_Do.f k a0 a1 a2 a3 a4).bind fun bt141 => (if t139 = bt141.1 then (if t140 = bt141.2 then ((wide_Known.f a0).bind fun t143 => ((ferryref10_Known.f a0).bind fun t144 => (if (t143 == t144) = true then ((ferrylaw10_awake.f).bind fun t145 => (some t145)) else (some false)))) else (some false)) else (some false))) = some r := H
  have A6 := Aside0.mk A60
  clear A60
  replace H := Option.bind_eq_some_iff.mp H
  obtain ⟨⟨t141, t142⟩, A70, H⟩ := H
  replace H : (if t139 = t141 then (if t140 = t142 then ((wide_Known.f a0).bind fun t143 => ((ferryref10_Known.f a0).bind fun t144 => (if (t143 == t144) = true then ((ferrylaw10_awake.f).bind fun t145 => (some t145)) else (some false)))) else (some false)) else (some false)) = some r := H
  have A7 := Aside0.mk A70
  clear A70
  by_cases c8 : t139 = t141
  · rw [if_pos c8] at H
    have c8b0 : (t139 == t141) = true := beq_iff_eq.mpr c8
    have c8b1 : (t139 != t141) = false := bne_eq_false_iff_eq.mpr c8
    clear c8
    by_cases c9 : t140 = t142
    · rw [if_pos c9] at H
      have c9b0 : (t140 == t142) = true := beq_iff_eq.mpr c9
      have c9b1 : (t140 != t142) = false := bne_eq_false_iff_eq.mpr c9
      clear c9
      replace H := Option.bind_eq_some_iff.mp H
      obtain ⟨t143, A100, H⟩ := H
      replace H : ((ferryref10_Known.f a0).bind fun t144 => (if (t143 == t144) = true then ((ferrylaw10_awake.f).bind fun t145 => (some t145)) else (some false))) = some r := H
      have A10 := Aside0.mk A100
      clear A100
      replace H := Option.bind_eq_some_iff.mp H
      obtain ⟨t144, A110, H⟩ := H
      replace H : (if (t143 == t144) = true then ((ferrylaw10_awake.f).bind fun t145 => (some t145)) else (some false)) = some r := H
      have A11 := Aside0.mk A110
      clear A110
      by_cases c12 : (t143 == t144) = true
      · rw [if_pos c12] at H
        have c12b0 : (t143 == t144) = true := c12
        (try (have c12b1 : decide (t143 = t144) = true := by simpa using c12))
        (try (have c12b2 : (t143 == t144) = true := by simpa using c12))
        clear c12
        replace H := Option.bind_eq_some_iff.mp H
        obtain ⟨t145, A130, H⟩ := H
        replace H : (some t145) = some r := H
        have A13 := Aside0.mk A130
        clear A130
        obtain rfl := Option.some.inj H
        go_enter Tryd.func3, Tryd.ntmps3
        go_wp2_with (first | ((with_reducible refine gate_callee (f := 8) rfl ?_); refine goesL_ (some 21) rfl rfl Tryd.func8 (by kernel_rfl) rfl #[.string a0, .int .u32 a1, .int .u32 a2, .int .u32 a3, .int .u32 a4] rfl (by (try simp only [List.map_toArray, List.map_cons, List.map_nil]); first | done | rfl | (simp only [List.length_drop, List.length_take]; rfl)) ?_; (with_reducible refine (wide_Do.calls a0 a1 a2 a3 a4 t139 t140 _ ?side1 A6.out).mono ?_); (case side1 => first | exact hL | exact Laid.below hL (by repeat (first | (with_reducible first | exact HB.out | apply below_alloc | apply pw_below_drewN | apply below_drew1) | exact HB.out))); rintro e w14 ⟨rfl, hb⟩; refine ⟨_, rfl, ?_⟩; have n0_ := Aside0.mk (below_step (by repeat (first | (with_reducible first | exact HB.out | apply below_alloc | apply pw_below_drewN | apply below_drew1) | exact HB.out)) hb); clear HB; have HB := n0_; clear n0_; (try clear hb); (try clear hb2); (try clear hk); (try clear hi)) | ((with_reducible refine gate_callee (f := 9) rfl ?_); refine goesL_ (some 30) rfl rfl Tryd.func9 (by kernel_rfl) rfl #[.string a0, .int .u32 a1, .int .u32 a2, .int .u32 a3, .int .u32 a4] rfl (by (try simp only [List.map_toArray, List.map_cons, List.map_nil]); first | done | rfl | (simp only [List.length_drop, List.length_take]; rfl)) ?_; (with_reducible refine (ferryref10_Do.calls k a0 a1 a2 a3 a4 t141 t142 _ A7.out).mono ?_); rintro e w' ⟨rfl, ⟨nd, rfl⟩⟩; refine ⟨_, rfl, ?_⟩) | (go_at_call 10; (with_reducible refine (wide_Known.calls a0 t143 _ ?side1 A10.out).mono ?_); (case side1 => first | exact hL | exact Laid.below hL (by repeat (first | (with_reducible first | exact HB.out | apply below_alloc | apply pw_below_drewN | apply below_drew1) | exact HB.out))); rintro e w15 ⟨rfl, hb⟩; have n0_ := Aside0.mk (below_step (by repeat (first | (with_reducible first | exact HB.out | apply below_alloc | apply pw_below_drewN | apply below_drew1) | exact HB.out)) hb); clear HB; have HB := n0_; clear n0_; (try clear hb); (try clear hb2); (try clear hk); (try clear hi)) | (go_at_call 11; (with_reducible refine (ferryref10_Known.calls a0 t144 _ A11.out).mono ?_); rintro e w' ⟨rfl, ⟨nd, rfl⟩⟩) | (go_at_call 12; (with_reducible refine (ferrylaw10_awake.calls  t145 _ ?side1 A13.out).mono ?_); (case side1 => first | exact hL | exact Laid.below hL (by repeat (first | (with_reducible first | exact HB.out | apply below_alloc | apply pw_below_drewN | apply below_drew1) | exact HB.out))); rintro e w16 ⟨rfl, hb⟩; have n0_ := Aside0.mk (below_step (by repeat (first | (with_reducible first | exact HB.out | apply below_alloc | apply pw_below_drewN | apply below_drew1) | exact HB.out)) hb); clear HB; have HB := n0_; clear n0_; (try clear hb); (try clear hb2); (try clear hk); (try clear hi)))
        go_ret
        exact ⟨by first | rfl | (simp [errW_none, errW_some] <;> rfl) | (simp [*, errW_none, errW_some] <;> rfl), by repeat (first | (with_reducible first | exact HB.out | apply below_alloc | apply pw_below_drewN | apply below_drew1) | exact HB.out)⟩
      · rw [if_neg c12] at H
        have c12b0 : (t143 == t144) = false := by simpa using c12
        (try (have c12b1 : decide (t143 = t144) = false := by simpa using c12))
        (try (have c12b2 : (t143 == t144) = false := by simpa using c12))
        (try (have c12b3 : ¬ (t143 = t144) := by simpa using c12))
        clear c12
        obtain rfl := Option.some.inj H
        go_enter Tryd.func3, Tryd.ntmps3
        go_wp2_with (first | ((with_reducible refine gate_callee (f := 8) rfl ?_); refine goesL_ (some 21) rfl rfl Tryd.func8 (by kernel_rfl) rfl #[.string a0, .int .u32 a1, .int .u32 a2, .int .u32 a3, .int .u32 a4] rfl (by (try simp only [List.map_toArray, List.map_cons, List.map_nil]); first | done | rfl | (simp only [List.length_drop, List.length_take]; rfl)) ?_; (with_reducible refine (wide_Do.calls a0 a1 a2 a3 a4 t139 t140 _ ?side1 A6.out).mono ?_); (case side1 => first | exact hL | exact Laid.below hL (by repeat (first | (with_reducible first | exact HB.out | apply below_alloc | apply pw_below_drewN | apply below_drew1) | exact HB.out))); rintro e w17 ⟨rfl, hb⟩; refine ⟨_, rfl, ?_⟩; have n0_ := Aside0.mk (below_step (by repeat (first | (with_reducible first | exact HB.out | apply below_alloc | apply pw_below_drewN | apply below_drew1) | exact HB.out)) hb); clear HB; have HB := n0_; clear n0_; (try clear hb); (try clear hb2); (try clear hk); (try clear hi)) | ((with_reducible refine gate_callee (f := 9) rfl ?_); refine goesL_ (some 30) rfl rfl Tryd.func9 (by kernel_rfl) rfl #[.string a0, .int .u32 a1, .int .u32 a2, .int .u32 a3, .int .u32 a4] rfl (by (try simp only [List.map_toArray, List.map_cons, List.map_nil]); first | done | rfl | (simp only [List.length_drop, List.length_take]; rfl)) ?_; (with_reducible refine (ferryref10_Do.calls k a0 a1 a2 a3 a4 t141 t142 _ A7.out).mono ?_); rintro e w' ⟨rfl, ⟨nd, rfl⟩⟩; refine ⟨_, rfl, ?_⟩) | (go_at_call 10; (with_reducible refine (wide_Known.calls a0 t143 _ ?side1 A10.out).mono ?_); (case side1 => first | exact hL | exact Laid.below hL (by repeat (first | (with_reducible first | exact HB.out | apply below_alloc | apply pw_below_drewN | apply below_drew1) | exact HB.out))); rintro e w18 ⟨rfl, hb⟩; have n0_ := Aside0.mk (below_step (by repeat (first | (with_reducible first | exact HB.out | apply below_alloc | apply pw_below_drewN | apply below_drew1) | exact HB.out)) hb); clear HB; have HB := n0_; clear n0_; (try clear hb); (try clear hb2); (try clear hk); (try clear hi)) | (go_at_call 11; (with_reducible refine (ferryref10_Known.calls a0 t144 _ A11.out).mono ?_); rintro e w' ⟨rfl, ⟨nd, rfl⟩⟩))
        go_ret
        exact ⟨by first | rfl | (simp [errW_none, errW_some] <;> rfl) | (simp [*, errW_none, errW_some] <;> rfl), by repeat (first | (with_reducible first | exact HB.out | apply below_alloc | apply pw_below_drewN | apply below_drew1) | exact HB.out)⟩
    · rw [if_neg c9] at H
      have c9b0 : (t140 == t142) = false := beq_eq_false_iff_ne.mpr c9
      have c9b1 : (t140 != t142) = true := bne_iff_ne.mpr c9
      obtain rfl := Option.some.inj H
      go_enter Tryd.func3, Tryd.ntmps3
      go_wp2_with (first | ((with_reducible refine gate_callee (f := 8) rfl ?_); refine goesL_ (some 21) rfl rfl Tryd.func8 (by kernel_rfl) rfl #[.string a0, .int .u32 a1, .int .u32 a2, .int .u32 a3, .int .u32 a4] rfl (by (try simp only [List.map_toArray, List.map_cons, List.map_nil]); first | done | rfl | (simp only [List.length_drop, List.length_take]; rfl)) ?_; (with_reducible refine (wide_Do.calls a0 a1 a2 a3 a4 t139 t140 _ ?side1 A6.out).mono ?_); (case side1 => first | exact hL | exact Laid.below hL (by repeat (first | (with_reducible first | exact HB.out | apply below_alloc | apply pw_below_drewN | apply below_drew1) | exact HB.out))); rintro e w19 ⟨rfl, hb⟩; refine ⟨_, rfl, ?_⟩; have n0_ := Aside0.mk (below_step (by repeat (first | (with_reducible first | exact HB.out | apply below_alloc | apply pw_below_drewN | apply below_drew1) | exact HB.out)) hb); clear HB; have HB := n0_; clear n0_; (try clear hb); (try clear hb2); (try clear hk); (try clear hi)) | ((with_reducible refine gate_callee (f := 9) rfl ?_); refine goesL_ (some 30) rfl rfl Tryd.func9 (by kernel_rfl) rfl #[.string a0, .int .u32 a1, .int .u32 a2, .int .u32 a3, .int .u32 a4] rfl (by (try simp only [List.map_toArray, List.map_cons, List.map_nil]); first | done | rfl | (simp only [List.length_drop, List.length_take]; rfl)) ?_; (with_reducible refine (ferryref10_Do.calls k a0 a1 a2 a3 a4 t141 t142 _ A7.out).mono ?_); rintro e w' ⟨rfl, ⟨nd, rfl⟩⟩; refine ⟨_, rfl, ?_⟩))
      go_ret
      exact ⟨by first | rfl | (simp [errW_none, errW_some] <;> rfl) | (simp [*, errW_none, errW_some] <;> rfl), by repeat (first | (with_reducible first | exact HB.out | apply below_alloc | apply pw_below_drewN | apply below_drew1) | exact HB.out)⟩
  · rw [if_neg c8] at H
    have c8b0 : (t139 == t141) = false := beq_eq_false_iff_ne.mpr c8
    have c8b1 : (t139 != t141) = true := bne_iff_ne.mpr c8
    obtain rfl := Option.some.inj H
    go_enter Tryd.func3, Tryd.ntmps3
    go_wp2_with (first | ((with_reducible refine gate_callee (f := 8) rfl ?_); refine goesL_ (some 21) rfl rfl Tryd.func8 (by kernel_rfl) rfl #[.string a0, .int .u32 a1, .int .u32 a2, .int .u32 a3, .int .u32 a4] rfl (by (try simp only [List.map_toArray, List.map_cons, List.map_nil]); first | done | rfl | (simp only [List.length_drop, List.length_take]; rfl)) ?_; (with_reducible refine (wide_Do.calls a0 a1 a2 a3 a4 t139 t140 _ ?side1 A6.out).mono ?_); (case side1 => first | exact hL | exact Laid.below hL (by repeat (first | (with_reducible first | exact HB.out | apply below_alloc | apply pw_below_drewN | apply below_drew1) | exact HB.out))); rintro e w20 ⟨rfl, hb⟩; refine ⟨_, rfl, ?_⟩; have n0_ := Aside0.mk (below_step (by repeat (first | (with_reducible first | exact HB.out | apply below_alloc | apply pw_below_drewN | apply below_drew1) | exact HB.out)) hb); clear HB; have HB := n0_; clear n0_; (try clear hb); (try clear hb2); (try clear hk); (try clear hi)) | ((with_reducible refine gate_callee (f := 9) rfl ?_); refine goesL_ (some 30) rfl rfl Tryd.func9 (by kernel_rfl) rfl #[.string a0, .int .u32 a1, .int .u32 a2, .int .u32 a3, .int .u32 a4] rfl (by (try simp only [List.map_toArray, List.map_cons, List.map_nil]); first | done | rfl | (simp only [List.length_drop, List.length_take]; rfl)) ?_; (with_reducible refine (ferryref10_Do.calls k a0 a1 a2 a3 a4 t141 t142 _ A7.out).mono ?_); rintro e w' ⟨rfl, ⟨nd, rfl⟩⟩; refine ⟨_, rfl, ?_⟩))
    go_ret
    exact ⟨by first | rfl | (simp [errW_none, errW_some] <;> rfl) | (simp [*, errW_none, errW_some] <;> rfl), by repeat (first | (with_reducible first | exact HB.out | apply below_alloc | apply pw_below_drewN | apply below_drew1) | exact HB.out)⟩

end Go.Proofs.YtommcnppgodhgaaDoor.F
