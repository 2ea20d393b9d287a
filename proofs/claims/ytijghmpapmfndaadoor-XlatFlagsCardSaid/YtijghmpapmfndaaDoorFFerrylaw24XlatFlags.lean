/- Functions of this seat's program, each as a plain Lean function, and what a call of each comes to. No condition. -/
import Derived.Test.YtijghmpapmfndaaDoorF0
import Derived.Test.YtijghmpapmfndaaDoorFXlatFlags
import Derived.Test.YtijghmpapmfndaaDoorFFerrylaw24Awake
namespace Go.Proofs.YtijghmpapmfndaaDoor.F
open Go.RowKit Go.Proofs.YtijghmpapmfndaaDoorW.PrintWords Go.Proofs.YtijghmpapmfndaaDoorW.PrintLast Go.Proofs.YtijghmpapmfndaaDoorW.PrintMore
attribute [local go_sem] max2_int min2_int max_two min_two max_three min_three max_four min_four   -- for this text's walks alone
set_option linter.unusedVariables false
set_option linter.unusedSimpArgs false

/-! ### ferrylaw24_XlatFlags: function 5 -/
def ferrylaw24_XlatFlags.j0 : Nat → Int → Int → Int → Bool → Bool → Option (Bool)
  | 0, _, _, _, _, _ => none
  | k + 1, x5, x7, x9, x10, x35 => if x35 = true then (if x10 = true then (some false) else (if x9 = 0 then ((ferrylaw24_awake.f k).bind fun t185 => (some t185)) else (some false))) else (if x10 = true then (if x9 = (Go.bits .or .i64 x5 x7) then ((ferrylaw24_awake.f k).bind fun t186 => (some t186)) else (some false)) else (some false))
def ferrylaw24_XlatFlags.f (k : Nat) (a0 : Int) (a1 : Int) : Option (Bool) := (xlat_Flags.f k a0).bind fun bt179 => ((xlat_Flags.f k (Go.bits .andNot .u32 a1 3)).bind fun bt181 => ((xlat_Flags.f k (Go.bits .or .u32 a0 (Go.bits .andNot .u32 a1 3))).bind fun bt183 => (if bt179.2 = true then (ferrylaw24_XlatFlags.j0 k bt179.1 bt181.1 bt183.1 bt183.2 (!bt181.2)) else (ferrylaw24_XlatFlags.j0 k bt179.1 bt181.1 bt183.1 bt183.2 true))))
theorem ferrylaw24_XlatFlags.mono_l : ∀ k, (∀ y0 y1 y2 y3 y4, LeO (ferrylaw24_XlatFlags.j0 k y0 y1 y2 y3 y4) (ferrylaw24_XlatFlags.j0 (k + 1) y0 y1 y2 y3 y4))
  | 0 => fun _ _ _ _ _ r h => by simp [ferrylaw24_XlatFlags.j0] at h
  | k + 1 => by
    have ih0 := ferrylaw24_XlatFlags.mono_l k
    · intro y0 y1 y2 y3 y4
      unfold ferrylaw24_XlatFlags.j0
      repeat' first
      | (with_reducible exact ih0 _ _ _ _ _)
      | (with_reducible exact ferrylaw24_awake.mono _)
      | (with_reducible exact xlat_Flags.mono _ _)
      | (with_reducible exact LeO.refl _)
      | (with_reducible exact LeO.none _)
      | (with_reducible refine LeO.ite ?_ ?_)
      | (with_reducible refine LeO.bind ?_ (fun _ => ?_))
      | exact ih0 _ _ _ _ _
      | exact ferrylaw24_awake.mono _
      | exact xlat_Flags.mono _ _
      | exact LeO.none _
      | refine LeO.ite ?_ ?_
      | refine LeO.bind ?_ (fun _ => ?_)
theorem ferrylaw24_XlatFlags.mono : ∀ a0 a1 k, LeO (ferrylaw24_XlatFlags.f k a0 a1) (ferrylaw24_XlatFlags.f (k + 1) a0 a1) := by
  intro a0 a1 k
  have ih0 := ferrylaw24_XlatFlags.mono_l k
  unfold ferrylaw24_XlatFlags.f
  repeat' first
      | (with_reducible exact ih0 _ _ _ _ _)
      | (with_reducible exact ferrylaw24_awake.mono _)
      | (with_reducible exact xlat_Flags.mono _ _)
      | (with_reducible exact LeO.refl _)
      | (with_reducible exact LeO.none _)
      | (with_reducible refine LeO.ite ?_ ?_)
      | (with_reducible refine LeO.bind ?_ (fun _ => ?_))
      | exact ih0 _ _ _ _ _
      | exact ferrylaw24_awake.mono _
      | exact xlat_Flags.mono _ _
      | exact LeO.none _
      | refine LeO.ite ?_ ?_
      | refine LeO.bind ?_ (fun _ => ?_)
set_option maxHeartbeats 8000000 in
set_option maxRecDepth 100000 in
theorem ferrylaw24_XlatFlags.calls (k : Nat) (a0 : Int) (a1 : Int) (r : Bool) (w : World) (hL : Laid w) (h : ferrylaw24_XlatFlags.f k a0 a1 = some r) :
    Calls Tryd.prog 5 #[.int .u32 a0, .int .u32 a1] w fun e w' => e = .returned (.bool r) ∧ Below w.heap.size w w' := by
  have HB := Aside0.mk (Below.refl w.heap.size w)
  have H : ((xlat_Flags.f k a0).bind fun bt179 => ((xlat_Flags.f k (Go.bits .andNot .u32 a1 3)).bind fun bt181 => ((xlat_Flags.f k (Go.bits .or .u32 a0 (Go.bits .andNot .u32 a1 3))).bind fun bt183 => (if bt179.2 = true then (ferrylaw24_XlatFlags.j0 k bt179.1 bt181.1 bt183.1 bt183.2 (!bt181.2)) else (ferrylaw24_XlatFlags.j0 k bt179.1 bt181.1 bt183.1 bt183.2 true))))) = some r := h
  clear h
  replace H := Option.bind_eq_some_iff.mp H
  obtain ⟨⟨t179, t180⟩, A30, H⟩ := H
  replace H : ((xlat_Flags.f k (Go.bits .andNot .u32 a1 3)).bind fun bt181 => ((xlat_Flags.f k (Go.bits .or .u32 a0 (Go.bits .andNot .u32 a1 3))).bind fun bt183 => (if t180 = true then (ferrylaw24_XlatFlags.j0 k t179 bt181.1 bt183.1 bt183.2 (!bt181.2)) else (ferrylaw24_XlatFlags.j0 k t179 bt181.1 bt183.1 bt183.2 true)))) = some r := H
  have A3 := Aside0.mk A30
  clear A30
  replace H := Option.bind_eq_some_iff.mp H
  obtain ⟨⟨t181, t182⟩, A40, H⟩ := H
  replace H : ((xlat_Flags.f k (Go.bits .or .u32 a0 (Go.bits .andNot .u32 a1 3))).bind fun bt183 => (if t180 = true then (ferrylaw24_XlatFlags.j0 k t179 t181 bt183.1 bt183.2 (!t182)) else (ferrylaw24_XlatFlags.j0 k t179 t181 bt183.1 bt183.2 true))) = some r := H
  have A4 := Aside0.mk A40
  clear A40
  replace H := Option.bind_eq_some_iff.mp H
  obtain ⟨⟨t183, t184⟩, A50, H⟩ := H
  replace H : (if t180 = true then (ferrylaw24_XlatFlags.j0 k t179 t181 t183 t184 (!t182)) else (ferrylaw24_XlatFlags.j0 k t179 t181 t183 t184 true)) = some r := H
  have A5 := Aside0.mk A50
  clear A50
  have HC6 := Aside0.mk H
  clear H
  go_enter Tryd.func5, Tryd.ntmps5
  go_upto_region 5 with (first | ((with_reducible refine gate_callee (f := 7) rfl ?_); refine goesL_ (some 15) rfl rfl Tryd.func7 (by kernel_rfl) rfl #[.int .u32 a0] rfl (by (try simp only [List.map_toArray, List.map_cons, List.map_nil]); first | done | rfl | (simp only [List.length_drop, List.length_take]; rfl)) ?_; (with_reducible refine (xlat_Flags.calls k a0 t179 t180 _ A3.out).mono ?_); rintro e w7 ⟨rfl, hb⟩; refine ⟨_, rfl, ?_⟩; have n0_ := Aside0.mk (below_step (by repeat (first | (with_reducible first | exact HB.out | apply below_alloc | apply pw_below_drewN | apply below_drew1) | exact HB.out)) hb); clear HB; have HB := n0_; clear n0_; (try clear hb); (try clear hb2); (try clear hk); (try clear hi)) | ((with_reducible refine gate_callee (f := 7) rfl ?_); refine goesL_ (some 20) rfl rfl Tryd.func7 (by kernel_rfl) rfl #[.int .u32 (Go.bits .andNot .u32 a1 3)] rfl (by (try simp only [List.map_toArray, List.map_cons, List.map_nil]); first | done | rfl | (simp only [List.length_drop, List.length_take]; rfl)) ?_; (with_reducible refine (xlat_Flags.calls k (Go.bits .andNot .u32 a1 3) t181 t182 _ A4.out).mono ?_); rintro e w8 ⟨rfl, hb⟩; refine ⟨_, rfl, ?_⟩; have n0_ := Aside0.mk (below_step (by repeat (first | (with_reducible first | exact HB.out | apply below_alloc | apply pw_below_drewN | apply below_drew1) | exact HB.out)) hb); clear HB; have HB := n0_; clear n0_; (try clear hb); (try clear hb2); (try clear hk); (try clear hi)) | ((with_reducible refine gate_callee (f := 7) rfl ?_); refine goesL_ (some 27) rfl rfl Tryd.func7 (by kernel_rfl) rfl #[.int .u32 (Go.bits .or .u32 a0 (Go.bits .andNot .u32 a1 3))] rfl (by (try simp only [List.map_toArray, List.map_cons, List.map_nil]); first | done | rfl | (simp only [List.length_drop, List.length_take]; rfl)) ?_; (with_reducible refine (xlat_Flags.calls k (Go.bits .or .u32 a0 (Go.bits .andNot .u32 a1 3)) t183 t184 _ A5.out).mono ?_); rintro e w9 ⟨rfl, hb⟩; refine ⟨_, rfl, ?_⟩; have n0_ := Aside0.mk (below_step (by repeat (first | (with_reducible first | exact HB.out | apply below_alloc | apply pw_below_drewN | apply below_drew1) | exact HB.out)) hb); clear HB; have HB := n0_; clear n0_; (try clear hb); (try clear hb2); (try clear hk); (try clear hi)))
  (try simp only [Act.put, List.setIfInBounds_toArray, List.set_cons_zero, List.set_cons_succ])
  go_cut [35] (fun v35 wc => ∃ (kq : Nat) (x35_5 : Bool), v35 = .bool x35_5 ∧ Aside0 (ferrylaw24_XlatFlags.j0 kq t179 t181 t183 t184 x35_5 = some r) ∧ Aside0 (kq ≤ k) ∧ Aside0 (Below w.heap.size w wc))
  case first =>
    have H := HC6.out
    clear HC6
    by_cases c10 : t180 = true
    · subst c10
      have H1 : (ferrylaw24_XlatFlags.j0 k t179 t181 t183 t184 (!t182)) = some r := by rw [if_pos rfl] at H; exact H
      clear H
      have H := H1
      clear H1
      have H' := Aside0.mk H
      clear H
      go_wp2
      go_meet
      case rel => exact ⟨_, (!t182), (by first | rfl | (simp; done) | (simp [*]; done)), H', ⟨by first | omega | exact Nat.le_refl _⟩, ⟨by repeat (first | (with_reducible first | exact HB.out | apply below_alloc | apply pw_below_drewN | apply below_drew1) | exact HB.out)⟩⟩
    · replace c10 := Bool.eq_false_iff.mpr c10
      subst c10
      have H1 : (ferrylaw24_XlatFlags.j0 k t179 t181 t183 t184 true) = some r := by rw [if_neg (show ¬ (false = true) by decide)] at H; exact H
      clear H
      have H := H1
      clear H1
      have H' := Aside0.mk H
      clear H
      go_wp2
      go_meet
      case rel => exact ⟨_, (true), (by first | rfl | (simp; done) | (simp [*]; done)), H', ⟨by first | omega | exact Nat.le_refl _⟩, ⟨by repeat (first | (with_reducible first | exact HB.out | apply below_alloc | apply pw_below_drewN | apply below_drew1) | exact HB.out)⟩⟩
  case rest =>
    clear HC6
    try clear c1
    try clear p2
    try clear c5
    try clear c7
    try clear c10
    obtain ⟨kq, x35_5, rfl, HA, HJ5, HB⟩ := hcut
    cases kq with
    | zero => exact absurd HA.out (by simp [ferrylaw24_XlatFlags.j0])
    | succ kj5 =>
      have H := HA.out
      clear HA
      simp only [ferrylaw24_XlatFlags.j0] at H
      by_cases c11 : x35_5 = true
      · subst c11
        have H1 : (if t184 = true then (some false) else (if t183 = 0 then ((ferrylaw24_awake.f kj5).bind fun t185 => (some t185)) else (some false))) = some r := by rw [if_pos rfl] at H; exact H
        clear H
        have H := H1
        clear H1
        by_cases c12 : t184 = true
        · subst c12
          have H1 : (some false) = some r := by rw [if_pos rfl] at H; exact H
          clear H
          have H := H1
          clear H1
          obtain rfl := Option.some.inj H
          go_wp2
          go_ret
          exact ⟨by first | rfl | (simp [errW_none, errW_some] <;> rfl) | (simp [*, errW_none, errW_some] <;> rfl), by repeat (first | (with_reducible first | exact HB.out | apply below_alloc | apply pw_below_drewN | apply below_drew1) | exact HB.out)⟩
        · replace c12 := Bool.eq_false_iff.mpr c12
          subst c12
          have H1 : (if t183 = 0 then ((ferrylaw24_awake.f kj5).bind fun t185 => (some t185)) else (some false)) = some r := by rw [if_neg (show ¬ (false = true) by decide)] at H; exact H
          clear H
          have H := H1
          clear H1
          by_cases c13 : t183 = 0
          · rw [if_pos c13] at H
            have c13b0 : (t183 == 0) = true := beq_iff_eq.mpr c13
            have c13b1 : (t183 != 0) = false := bne_eq_false_iff_eq.mpr c13
            clear c13
            replace H := Option.bind_eq_some_iff.mp H
            obtain ⟨t185, A140, H⟩ := H
            replace H : (some t185) = some r := H
            have A14 := Aside0.mk A140
            clear A140
            obtain rfl := Option.some.inj H
            go_wp2_with (first | (go_at_call 15; (with_reducible refine (ferrylaw24_awake.calls kj5  t185 _ ?side1 A14.out).mono ?_); (case side1 => first | exact hL | exact Laid.below hL (by repeat (first | (with_reducible first | exact HB.out | apply below_alloc | apply pw_below_drewN | apply below_drew1) | exact HB.out))); rintro e w15 ⟨rfl, hb⟩; have n0_ := Aside0.mk (below_step (by repeat (first | (with_reducible first | exact HB.out | apply below_alloc | apply pw_below_drewN | apply below_drew1) | exact HB.out)) hb); clear HB; have HB := n0_; clear n0_; (try clear hb); (try clear hb2); (try clear hk); (try clear hi)))
            go_ret
            exact ⟨by first | rfl | (simp [errW_none, errW_some] <;> rfl) | (simp [*, errW_none, errW_some] <;> rfl), by repeat (first | (with_reducible first | exact HB.out | apply below_alloc | apply pw_below_drewN | apply below_drew1) | exact HB.out)⟩
          · rw [if_neg c13] at H
            have c13b0 : (t183 == 0) = false := beq_eq_false_iff_ne.mpr c13
            have c13b1 : (t183 != 0) = true := bne_iff_ne.mpr c13
            obtain rfl := Option.some.inj H
            go_wp2
            go_ret
            exact ⟨by first | rfl | (simp [errW_none, errW_some] <;> rfl) | (simp [*, errW_none, errW_some] <;> rfl), by repeat (first | (with_reducible first | exact HB.out | apply below_alloc | apply pw_below_drewN | apply below_drew1) | exact HB.out)⟩
      · replace c11 := Bool.eq_false_iff.mpr c11
        subst c11
        have H1 : (if t184 = true then (if t183 = (Go.bits .or .i64 t179 t181) then ((ferrylaw24_awake.f kj5).bind fun t186 => (some t186)) else (some false)) else (some false)) = some r := by rw [if_neg (show ¬ (false = true) by decide)] at H; exact H
        clear H
        have H := H1
        clear H1
        by_cases c16 : t184 = true
        · subst c16
          have H1 : (if t183 = (Go.bits .or .i64 t179 t181) then ((ferrylaw24_awake.f kj5).bind fun t186 => (some t186)) else (some false)) = some r := by rw [if_pos rfl] at H; exact H
          clear H
          have H := H1
          clear H1
          by_cases c17 : t183 = (Go.bits .or .i64 t179 t181)
          · rw [if_pos c17] at H
            have c17b0 : (t183 == (Go.bits .or .i64 t179 t181)) = true := beq_iff_eq.mpr c17
            have c17b1 : (t183 != (Go.bits .or .i64 t179 t181)) = false := bne_eq_false_iff_eq.mpr c17
            clear c17
            replace H := Option.bind_eq_some_iff.mp H
            obtain ⟨t186, A180, H⟩ := H
            replace H : (some t186) = some r := H
            have A18 := Aside0.mk A180
            clear A180
            obtain rfl := Option.some.inj H
            go_wp2_with (first | (go_at_call 15; (with_reducible refine (ferrylaw24_awake.calls kj5  t186 _ ?side1 A18.out).mono ?_); (case side1 => first | exact hL | exact Laid.below hL (by repeat (first | (with_reducible first | exact HB.out | apply below_alloc | apply pw_below_drewN | apply below_drew1) | exact HB.out))); rintro e w19 ⟨rfl, hb⟩; have n0_ := Aside0.mk (below_step (by repeat (first | (with_reducible first | exact HB.out | apply below_alloc | apply pw_below_drewN | apply below_drew1) | exact HB.out)) hb); clear HB; have HB := n0_; clear n0_; (try clear hb); (try clear hb2); (try clear hk); (try clear hi)))
            go_ret
            exact ⟨by first | rfl | (simp [errW_none, errW_some] <;> rfl) | (simp [*, errW_none, errW_some] <;> rfl), by repeat (first | (with_reducible first | exact HB.out | apply below_alloc | apply pw_below_drewN | apply below_drew1) | exact HB.out)⟩
          · rw [if_neg c17] at H
            have c17b0 : (t183 == (Go.bits .or .i64 t179 t181)) = false := beq_eq_false_iff_ne.mpr c17
            have c17b1 : (t183 != (Go.bits .or .i64 t179 t181)) = true := bne_iff_ne.mpr c17
            obtain rfl := Option.some.inj H
            go_wp2
            go_ret
            exact ⟨by first | rfl | (simp [errW_none, errW_some] <;> rfl) | (simp [*, errW_none, errW_some] <;> rfl), by repeat (first | (with_reducible first | exact HB.out | apply below_alloc | apply pw_below_drewN | apply below_drew1) | exact HB.out)⟩
        · replace c16 := Bool.eq_false_iff.mpr c16
          subst c16
          have H1 : (some false) = some r := by rw [if_neg (show ¬ (false = true) by decide)] at H; exact H
          clear H
          have H := H1
          clear H1
          obtain rfl := Option.some.inj H
          go_wp2
          go_ret
          exact ⟨by first | rfl | (simp [errW_none, errW_some] <;> rfl) | (simp [*, errW_none, errW_some] <;> rfl), by repeat (first | (with_reducible first | exact HB.out | apply below_alloc | apply pw_below_drewN | apply below_drew1) | exact HB.out)⟩

end Go.Proofs.YtijghmpapmfndaaDoor.F
