import Derived.Test.YtjhfglpgpicmiaaVZF0
import Derived.Test.YtjhfglpgpicmiaaVA0
import Derived.Test.YtjhfglpgpicmiaaVA3
import Derived.Test.YtjhfglpgpicmiaaVA5
import Derived.Test.YtjhfglpgpicmiaaVA11
import Derived.Test.YtjhfglpgpicmiaaVA22
import Derived.Test.YtjhfglpgpicmiaaVA29
section
namespace Go.Proofs.Ytjhfglpgpicmiaa.F
open Go.RowKit Go.Proofs.YtjhfglpgpicmiaaW.PrintWords Go.Proofs.YtjhfglpgpicmiaaW.PrintLast Go.Proofs.YtjhfglpgpicmiaaW.PrintMore
attribute [local go_sem] max2_int min2_int max_two min_two max_three min_three max_four min_four
attribute [local go_sem] cell_twice
set_option linter.unusedVariables false
set_option linter.unusedSimpArgs false

mutual
def guest_Protect.j0 : Nat → Int → Int → Int → List (S39) → Bool → List (S55) → List (S60) → Int → List (S39) → Option ((List (S55)) × (List (S60)) × Int × (List (S39)) × Int)
  | 0, _, _, _, _, _, _, _, _, _ => none
  | k + 1, x2, x3, x10, x12, x60, x427000, x427001, x427002, x427003 => if x60 = true then (some (x427000, x427001, x427002, x427003, 12)) else (if 0 ≤ x10 then (if x10 ≤ (wrap64 (x10 + (wrap64 (x2)))) then (if (wrap64 (x10 + (wrap64 (x2)))) ≤ (x12.length : Int) then (guest_Protect.l0 k x3 x10 x12 (((x12.take ((wrap64 (x10 + (wrap64 (x2)))) : Int).toNat).drop (x10 : Int).toNat).length : Int) 0 x427000 x427001 x427002 x427003) else (none)) else (none)) else (none))
def guest_Protect.l0 : Nat → Int → Int → List (S39) → Int → Int → List (S55) → List (S60) → Int → List (S39) → Option ((List (S55)) × (List (S60)) × Int × (List (S39)) × Int)
  | 0, _, _, _, _, _, _, _, _, _ => none
  | k + 1, x3, x10, x12, x69, x70, x427000, x427001, x427002, x427003 => if x70 < x69 then (if 0 ≤ (wrap64 (x10 + x70)) then (if (wrap64 (x10 + x70)) < (x12.length : Int) then (guest_Protect.l0 k x3 x10 (x12.set ((wrap64 (x10 + x70)) : Int).toNat (⟨(rd_T39 x12 (wrap64 (x10 + x70))).f0, x3⟩ : S39)) x69 (wrap64 (x70 + 1)) x427000 x427001 x427002 x427003) else (none)) else (none)) else (some (x427000, x427001, x427002, x12, 0))
end
def guest_Protect.f (k : Nat) (l0_0 : List (S55)) (l0_1 : List (S60)) (a0_2 : Int) (l0_3 : List (S39)) (a1 : Int) (a2 : Int) (a3 : Int) : Option ((List (S55)) × (List (S60)) × Int × (List (S39)) × Int) := (guest_wrong.f a1 a2 a3).bind fun t428 => (if t428 = true then (some (l0_0, l0_1, a0_2, l0_3, 22)) else ((guest_at.f l0_3 a1).bind fun bt429 => ((api_Page_48.f l0_3).bind fun t431 => (if ((wrap64 ((t431.length : Int) - bt429.1)) % 4294967296) < a2 then (guest_Protect.j0 k a2 a3 bt429.1 t431 true l0_0 l0_1 a0_2 l0_3) else (if 0 ≤ bt429.1 then (if bt429.1 < (t431.length : Int) then (if ((rd_T39 t431 bt429.1).f0) = a1 then (if 0 ≤ (wrap64 ((wrap64 (bt429.1 + (wrap64 (a2)))) - 1)) then (if (wrap64 ((wrap64 (bt429.1 + (wrap64 (a2)))) - 1)) < (t431.length : Int) then (guest_Protect.j0 k a2 a3 bt429.1 t431 (((rd_T39 t431 (wrap64 ((wrap64 (bt429.1 + (wrap64 (a2)))) - 1))).f0) != ((a1 + ((a2 - 1) % 4294967296)) % 4294967296)) l0_0 l0_1 a0_2 l0_3) else (none)) else (none)) else (guest_Protect.j0 k a2 a3 bt429.1 t431 true l0_0 l0_1 a0_2 l0_3)) else (none)) else (none))))))
set_option maxHeartbeats 8000000 in
set_option maxRecDepth 100000 in
theorem guest_Protect.calls (k : Nat) (P0_0_ : Nat → Prop) (A0_0 : Option Addr) (c0_0 : Nat) (l0_0 : List (S55)) (P0_1_ : Nat → Prop) (A0_1 : Option Addr) (c0_1 : Nat) (l0_1 : List (S60)) (a0_2 : Int) (P0_3_ : Nat → Prop) (A0_3 : Option Addr) (c0_3 : Nat) (l0_3 : List (S39)) (a1 : Int) (a2 : Int) (a3 : Int) (r1 : List (S55)) (r2 : List (S60)) (r3 : Int) (r4 : List (S39)) (r5 : Int) (w : World) (hs0_0 : Kd.V k55 55 w w.heap.size (fun k_ => P0_0_ k_) (.slice A0_0 l0_0.length c0_0) l0_0) (hs0_1 : Kd.V k60 60 w w.heap.size (fun k_ => P0_1_ k_) (.slice A0_1 l0_1.length c0_1) l0_1) (hs0_3 : Kd.V k39 39 w w.heap.size (fun k_ => P0_3_ k_) (.slice A0_3 l0_3.length c0_3) l0_3) (h : guest_Protect.f k l0_0 l0_1 a0_2 l0_3 a1 a2 a3 = some (r1, r2, r3, r4, r5)) :
    Calls Try.prog 19 #[.agg #[.slice A0_0 l0_0.length c0_0, .slice A0_1 l0_1.length c0_1, .int .u64 a0_2, .slice A0_3 l0_3.length c0_3], .int .u32 a1, .int .u32 a2, .int .i64 a3] w fun e w' => ∃ v0_ v1_ v3_ : Value, e = .returned (.tuple #[.agg #[v0_, v1_, .int .u64 r3, v3_], .int .i64 r5]) ∧ Kd.V k55 55 w' w.heap.size (fun k_ => ((P0_0_ k_ ∨ P0_1_ k_ ∨ P0_3_ k_) ∨ w.heap.size ≤ k_)) v0_ r1 ∧ Kd.V k60 60 w' w.heap.size (fun k_ => ((P0_0_ k_ ∨ P0_1_ k_ ∨ P0_3_ k_) ∨ w.heap.size ≤ k_)) v1_ r2 ∧ Kd.V k39 39 w' w.heap.size (fun k_ => ((P0_0_ k_ ∨ P0_1_ k_ ∨ P0_3_ k_) ∨ w.heap.size ≤ k_)) v3_ r4 ∧ Below w.heap.size w w' := by
  have hu29 := Try.underlying29
  have HO0_0 := Aside0.mk (show Kd.V k55 55 w w.heap.size (fun k_ => ((P0_0_ k_ ∨ P0_1_ k_ ∨ P0_3_ k_) ∨ w.heap.size ≤ k_)) (.slice A0_0 l0_0.length c0_0) l0_0 from Kd.V_mono hs0_0 (fun k_ hk => .inl (.inl hk)))
  have HO0_1 := Aside0.mk (show Kd.V k60 60 w w.heap.size (fun k_ => ((P0_0_ k_ ∨ P0_1_ k_ ∨ P0_3_ k_) ∨ w.heap.size ≤ k_)) (.slice A0_1 l0_1.length c0_1) l0_1 from Kd.V_mono hs0_1 (fun k_ hk => .inl (.inr (.inl hk))))
  have HO0_3 := Aside0.mk (show Kd.V k39 39 w w.heap.size (fun k_ => ((P0_0_ k_ ∨ P0_1_ k_ ∨ P0_3_ k_) ∨ w.heap.size ≤ k_)) (.slice A0_3 l0_3.length c0_3) l0_3 from Kd.V_mono hs0_3 (fun k_ hk => .inl (.inr (.inr hk))))
  have HB := Aside0.mk (Below.refl w.heap.size w)
  have H : ((guest_wrong.f a1 a2 a3).bind fun t428 => (if t428 = true then (some (l0_0, l0_1, a0_2, l0_3, 22)) else ((guest_at.f l0_3 a1).bind fun bt429 => ((api_Page_48.f l0_3).bind fun t431 => (if ((wrap64 ((t431.length : Int) - bt429.1)) % 4294967296) < a2 then (guest_Protect.j0 k a2 a3 bt429.1 t431 true l0_0 l0_1 a0_2 l0_3) else (if 0 ≤ bt429.1 then (if bt429.1 < (t431.length : Int) then (if ((rd_T39 t431 bt429.1).f0) = a1 then (if 0 ≤ (wrap64 ((wrap64 (bt429.1 + (wrap64 (a2)))) - 1)) then (if (wrap64 ((wrap64 (bt429.1 + (wrap64 (a2)))) - 1)) < (t431.length : Int) then (guest_Protect.j0 k a2 a3 bt429.1 t431 (((rd_T39 t431 (wrap64 ((wrap64 (bt429.1 + (wrap64 (a2)))) - 1))).f0) != ((a1 + ((a2 - 1) % 4294967296)) % 4294967296)) l0_0 l0_1 a0_2 l0_3) else (none)) else (none)) else (guest_Protect.j0 k a2 a3 bt429.1 t431 true l0_0 l0_1 a0_2 l0_3)) else (none)) else (none))))))) = some (r1, r2, r3, r4, r5) := h
  clear h
  replace H := Option.bind_eq_some_iff.mp H
  obtain ⟨t428, A50, H⟩ := H
  have A5 := Aside0.mk A50
  clear A50
  by_cases c6 : t428 = true
  · subst c6
    replace H := hP_ H
    simp only [Option.some.injEq, Prod.mk.injEq] at H
    obtain ⟨rfl, rfl, rfl, rfl, rfl⟩ := H
    go_enter Try.func19, Try.ntmps19
    go_wp2_with (first | ((with_reducible refine gate_dst (N := 4) rfl ?_); refine bE_ 4 #[.slice A0_0 l0_0.length c0_0, .slice A0_1 l0_1.length c0_1, .int .u64 a0_2, .slice A0_3 l0_3.length c0_3] 29 ?_; intro gb426 hg w7 hbox hb; have BK426 := Aside0.mk hbox; have GW426 := geT_ w.heap.size hg; have GE426 := geT_ w.heap.size hg; replace HO0_0 := vE_ HO0_0.out hg hb; replace HO0_1 := vE_ HO0_1.out hg hb; replace HO0_3 := vE_ HO0_3.out hg hb; replace HB := hB_ hb; clear hb hbox hg) | ((with_reducible refine gate_dst (N := 8) rfl ?_); refine bE_ 8 #[.slice none 0 0, .slice none 0 0, .int .u64 0, .slice none 0 0] 29 ?_; intro gb427 hg w8 hbox hb; have BK427 := Aside0.mk hbox; have GW427 := geT_ w.heap.size hg; have GE427 := geT_ w.heap.size hg; have NB426_427 := nlT_ BK426.out hg; have NB427_426 := ngT_ BK426.out hg; replace HO0_0 := vE_ HO0_0.out hg hb; replace HO0_1 := vE_ HO0_1.out hg hb; replace HO0_3 := vE_ HO0_3.out hg hb; replace BK426 := kB_ BK426 hb; replace HB := hB_ hb; clear hb hbox hg) | ((with_reducible refine gate_callee (f := 31) rfl ?_); refine gL_ (some 17) Try.func31 #[.int .u32 a1, .int .u32 a2, .int .i64 a3] ?_; (with_reducible refine (guest_wrong.calls a1 a2 a3 true _ A5.out).mono ?_); rintro e w' ⟨rfl, ⟨nd, rfl⟩⟩; refine ⟨_, rfl, ?_⟩; (try (rw [drewN_self w8]; generalize hq_ : World.drewN w8 _ = w8; replace HO0_0 : Aside0 (Kd.V k55 55 w8 w.heap.size (fun k_ => ((P0_0_ k_ ∨ P0_1_ k_ ∨ P0_3_ k_) ∨ w.heap.size ≤ k_) ∧ k_ ≠ gb426 ∧ k_ ≠ gb427) (.slice A0_0 l0_0.length c0_0) l0_0) := ⟨by rw [← hq_]; exact (vM_ HO0_0.out)⟩; replace HO0_1 : Aside0 (Kd.V k60 60 w8 w.heap.size (fun k_ => ((P0_0_ k_ ∨ P0_1_ k_ ∨ P0_3_ k_) ∨ w.heap.size ≤ k_) ∧ k_ ≠ gb426 ∧ k_ ≠ gb427) (.slice A0_1 l0_1.length c0_1) l0_1) := ⟨by rw [← hq_]; exact (vM_ HO0_1.out)⟩; replace HO0_3 : Aside0 (Kd.V k39 39 w8 w.heap.size (fun k_ => ((P0_0_ k_ ∨ P0_1_ k_ ∨ P0_3_ k_) ∨ w.heap.size ≤ k_) ∧ k_ ≠ gb426 ∧ k_ ≠ gb427) (.slice A0_3 l0_3.length c0_3) l0_3) := ⟨by rw [← hq_]; exact (vM_ HO0_3.out)⟩; replace BK426 : Aside0 (w8.heap[gb426]? = some (.cells #[.slice A0_0 l0_0.length c0_0, .slice A0_1 l0_1.length c0_1, .int .u64 a0_2, .slice A0_3 l0_3.length c0_3] 29 (0, 0))) := ⟨by rw [← hq_]; exact (bT_ BK426.out)⟩; replace BK427 : Aside0 (w8.heap[gb427]? = some (.cells #[.slice none 0 0, .slice none 0 0, .int .u64 0, .slice none 0 0] 29 (0, 0))) := ⟨by rw [← hq_]; exact (bT_ BK427.out)⟩; replace HB : Aside0 (Below w.heap.size w w8) := ⟨by rw [← hq_]; exact beT_⟩; clear hq_)); have hnb9 := NB426_427.out; have hnc9 := NB427_426.out; obtain ⟨hcz10_0, hcz10_1, hcz10_2, hcz10_3, hfz10_0, hfz10_1, hfz10_2, hfz10_3⟩ := b4_ BK426.out; obtain ⟨hcz11_0, hcz11_1, hcz11_2, hcz11_3, hfz11_0, hfz11_1, hfz11_2, hfz11_3⟩ := b4_ BK427.out))
    refine bodyPost_ret (results_ct rfl _ _ gb427 29 #[.slice A0_0 l0_0.length c0_0, .slice A0_1 l0_1.length c0_1, .int .u64 a0_2, .slice A0_3 l0_3.length c0_3] (0, 0) _ rfl (kP_ BK427.out) Try.underlying29 rfl (by kernel_rfl)) rfl ?_
    exact ⟨_, _, _, r3_, (vF_ HO0_0.out), (vF_ HO0_1.out), (vF_ HO0_3.out), beT_⟩
  replace c6 := Bool.eq_false_iff.mpr c6
  subst c6
  replace H := hN_ H
  replace H := Option.bind_eq_some_iff.mp H
  obtain ⟨⟨t429, t430⟩, A120, H⟩ := H
  have A12 := Aside0.mk A120
  clear A120
  replace H := Option.bind_eq_some_iff.mp H
  obtain ⟨t431, A130, H⟩ := H
  have A13 := Aside0.mk A130
  clear A130
  have HC14 := Aside0.mk H
  clear H
  go_enter Try.func19, Try.ntmps19
  go_upto_region 5 with (first | ((with_reducible refine gate_dst (N := 4) rfl ?_); refine bE_ 4 #[.slice A0_0 l0_0.length c0_0, .slice A0_1 l0_1.length c0_1, .int .u64 a0_2, .slice A0_3 l0_3.length c0_3] 29 ?_; intro gb426 hg w15 hbox hb; have BK426 := Aside0.mk hbox; have GW426 := geT_ w.heap.size hg; have GE426 := geT_ w.heap.size hg; replace HO0_0 := vE_ HO0_0.out hg hb; replace HO0_1 := vE_ HO0_1.out hg hb; replace HO0_3 := vE_ HO0_3.out hg hb; replace HB := hB_ hb; clear hb hbox hg) | ((with_reducible refine gate_dst (N := 8) rfl ?_); refine bE_ 8 #[.slice none 0 0, .slice none 0 0, .int .u64 0, .slice none 0 0] 29 ?_; intro gb427 hg w16 hbox hb; have BK427 := Aside0.mk hbox; have GW427 := geT_ w.heap.size hg; have GE427 := geT_ w.heap.size hg; have NB426_427 := nlT_ BK426.out hg; have NB427_426 := ngT_ BK426.out hg; replace HO0_0 := vE_ HO0_0.out hg hb; replace HO0_1 := vE_ HO0_1.out hg hb; replace HO0_3 := vE_ HO0_3.out hg hb; replace BK426 := kB_ BK426 hb; replace HB := hB_ hb; clear hb hbox hg) | ((with_reducible refine gate_callee (f := 31) rfl ?_); refine gL_ (some 17) Try.func31 #[.int .u32 a1, .int .u32 a2, .int .i64 a3] ?_; (with_reducible refine (guest_wrong.calls a1 a2 a3 false _ A5.out).mono ?_); rintro e w' ⟨rfl, ⟨nd, rfl⟩⟩; refine ⟨_, rfl, ?_⟩; have hnb17 := NB426_427.out; have hnc17 := NB427_426.out; obtain ⟨hcz18_0, hcz18_1, hcz18_2, hcz18_3, hfz18_0, hfz18_1, hfz18_2, hfz18_3⟩ := b4_ BK426.out) | ((with_reducible refine gate_callee (f := 38) rfl ?_); refine gL_ (some 23) Try.func38 #[.slice A0_3 l0_3.length c0_3, .int .u32 a1] ?_; (with_reducible refine (guest_at.calls _ _ l0_3 a1 t429 t430 _ ?side1 ?side2 A12.out).mono ?_); (case side1 => exact cT_ (Kd.V_reads' HO0_3.out).2.2); (case side2 => exact (Kd.V_reads' HO0_3.out).2.1); rintro e w19 ⟨rfl, hb⟩; refine ⟨_, rfl, ?_⟩; replace HO0_0 := vB_ HO0_0.out hb; replace HO0_1 := vB_ HO0_1.out hb; replace HO0_3 := vB_ HO0_3.out hb; replace BK426 := kB_ BK426 hb; replace BK427 := kB_ BK427 hb; replace HB := hB_ hb; (try clear hb); (try clear hb2); (try clear hk); (try clear hi); obtain ⟨hcz20_0, hcz20_1, hcz20_2, hcz20_3, hfz20_0, hfz20_1, hfz20_2, hfz20_3⟩ := b4_ BK426.out) | ((with_reducible refine gate_callee (f := 48) rfl ?_); refine gL_ (some 28) Try.func48 #[.slice A0_3 l0_3.length c0_3] ?_; (with_reducible refine (api_Page_48.calls _ _ l0_3 t431 _ ?side1 ?side2 A13.out).mono ?_); (case side1 => exact cT_ (Kd.V_reads' HO0_3.out).2.2); (case side2 => exact (Kd.V_reads' HO0_3.out).2.1); rintro e w21 ⟨v432, rfl, ho0, hb⟩; refine ⟨_, rfl, ?_⟩; have HO433 := Aside0.mk (Kd.R_lower (Kd.R_newM (M := fun k_ => (w.heap.size ≤ k_)) ho0 (below_size beT_) (fun k_ h_ => h_)) (below_size beT_)); replace HO0_0 := Aside0.mk (Kd.V_elder' (vT_ HO0_0.out) (Kd.R_base ho0) hb); replace HO0_1 := Aside0.mk (Kd.V_elder' (vT_ HO0_1.out) (Kd.R_base ho0) hb); replace HO0_3 := Aside0.mk (Kd.V_elder' (vT_ HO0_3.out) (Kd.R_base ho0) hb); replace BK426 := kB_ BK426 hb; replace BK427 := kB_ BK427 hb; replace HB := hB_ hb; (try clear hb); (try clear hb2); (try clear hk); (try clear hi); (try clear ho0)))
  (try simp only [Act.put, List.setIfInBounds_toArray, List.set_cons_zero, List.set_cons_succ])
  go_cut [60] (fun v60 wc => ∃ (kq : Nat) (x60_13 : Bool), v60 = .bool x60_13 ∧ Aside0 (guest_Protect.j0 kq a2 a3 t429 t431 x60_13 l0_0 l0_1 a0_2 l0_3 = some (r1, r2, r3, r4, r5)) ∧ Aside0 (kq ≤ k) ∧ Aside0 (Kd.R k39 39 wc w.heap.size (fun k_ => (w.heap.size ≤ k_)) v432 t431) ∧ Aside0 (Kd.V k55 55 wc w.heap.size (fun k_ => ((P0_0_ k_ ∨ P0_1_ k_ ∨ P0_3_ k_) ∨ w.heap.size ≤ k_) ∧ some k_ ≠ (v432 : Value).ownBlock ∧ k_ ≠ gb426 ∧ k_ ≠ gb427) (.slice A0_0 l0_0.length c0_0) l0_0) ∧ Aside0 (Kd.V k60 60 wc w.heap.size (fun k_ => ((P0_0_ k_ ∨ P0_1_ k_ ∨ P0_3_ k_) ∨ w.heap.size ≤ k_) ∧ some k_ ≠ (v432 : Value).ownBlock ∧ k_ ≠ gb426 ∧ k_ ≠ gb427) (.slice A0_1 l0_1.length c0_1) l0_1) ∧ Aside0 (Kd.V k39 39 wc w.heap.size (fun k_ => ((P0_0_ k_ ∨ P0_1_ k_ ∨ P0_3_ k_) ∨ w.heap.size ≤ k_) ∧ some k_ ≠ (v432 : Value).ownBlock ∧ k_ ≠ gb426 ∧ k_ ≠ gb427) (.slice A0_3 l0_3.length c0_3) l0_3) ∧ Aside0 (wc.heap[gb426]? = some (.cells #[(.slice A0_0 l0_0.length c0_0), (.slice A0_1 l0_1.length c0_1), .int .u64 a0_2, (.slice A0_3 l0_3.length c0_3)] 29 (0, 0))) ∧ Aside0 (wc.heap[gb427]? = some (.cells #[(.slice none 0 0), (.slice none 0 0), .int .u64 0, (.slice none 0 0)] 29 (0, 0))) ∧ Aside0 (Below w.heap.size w wc))
  case first =>
    have H := HC14.out
    clear HC14
    by_cases c22 : ((wrap64 ((t431.length : Int) - t429)) % 4294967296) < a2
    · rw [if_pos c22] at H
      have c22b0 : decide (((wrap64 ((t431.length : Int) - t429)) % 4294967296) < a2) = true := decide_eq_true c22
      (try (have c22bs0 := c22b0; simp only [Int.add_emod_emod, Int.emod_add_emod, Int.sub_emod_emod, Int.emod_sub_emod] at c22bs0))
      clear c22
      (first | rw [c22b0] | (simp only [i64_w, i32_w]; rw [c22b0]) | skip)
      have H' := Aside0.mk H
      clear H
      obtain ⟨Ao23, co23, eo23⟩ := Kd.R_slice HO433.out
      subst eo23
      go_wp2
      go_meet
      case rel => exact ⟨_, (true), r1_, H', ⟨r2_⟩, ⟨rM_ HO433.out⟩, ⟨vM_ HO0_0.out⟩, ⟨vM_ HO0_1.out⟩, ⟨vM_ HO0_3.out⟩, ⟨bT_ BK426.out⟩, ⟨bT_ BK427.out⟩, ⟨beT_⟩⟩
    rw [if_neg c22] at H
    have c22b0 : decide (((wrap64 ((t431.length : Int) - t429)) % 4294967296) < a2) = false := decide_eq_false c22
    (try (have c22bs0 := c22b0; simp only [Int.add_emod_emod, Int.emod_add_emod, Int.sub_emod_emod, Int.emod_sub_emod] at c22bs0))
    clear c22
    (first | rw [c22b0] | (simp only [i64_w, i32_w]; rw [c22b0]) | skip)
    by_cases c24 : 0 ≤ t429
    · rw [if_pos c24] at H
      have c24b0 : decide (0 ≤ t429) = true := decide_eq_true c24
      clear c24
      by_cases c25 : t429 < (t431.length : Int)
      · rw [if_pos c25] at H
        have c25b0 : decide (t429 < (t431.length : Int)) = true := decide_eq_true c25
        clear c25
        by_cases c26 : ((rd_T39 t431 t429).f0) = a1
        · rw [if_pos c26] at H
          have c26b0 : (((rd_T39 t431 t429).f0) == a1) = true := beq_iff_eq.mpr c26
          have c26b1 : (((rd_T39 t431 t429).f0) != a1) = false := bne_eq_false_iff_eq.mpr c26
          clear c26
          obtain ⟨ji27, hji27⟩ : ∃ j_ : Int, (wrap64 ((wrap64 (t429 + (wrap64 (a2)))) - 1)) = j_ := ⟨_, rfl⟩
          replace H : (if 0 ≤ (ji27) then (if (ji27) < (t431.length : Int) then (guest_Protect.j0 k a2 a3 t429 t431 (((rd_T39 t431 (ji27)).f0) != ((a1 + ((a2 - 1) % 4294967296)) % 4294967296)) l0_0 l0_1 a0_2 l0_3) else (none)) else (none)) = some (r1, r2, r3, r4, r5) := by first | (rw [hji27] at H; exact H) | (simp only [hji27] at H ⊢; exact H)
          have hji27w : (IntKind.i64.wrap ((wrap64 (t429 + (wrap64 (a2)))) - 1)) = ji27 := (i64_w _).trans hji27
          by_cases c28 : 0 ≤ (ji27)
          · rw [if_pos c28] at H
            have c28b0 : decide (0 ≤ (ji27)) = true := decide_eq_true c28
            clear c28
            by_cases c29 : (ji27) < (t431.length : Int)
            · rw [if_pos c29] at H
              have c29b0 : decide ((ji27) < (t431.length : Int)) = true := decide_eq_true c29
              clear c29
              have H' := Aside0.mk H
              clear H
              obtain ⟨Ao30, co30, eo30⟩ := Kd.R_slice HO433.out
              subst eo30
              have p434 : 0 ≤ (t429 : Int) := dT_
              have q434 : t429 < (t431.length : Int) := dT_
              obtain ⟨ad434, e434, hx434_0, hx434_1⟩ := at_T39 (Kd.R_reads' HO433.out).2.2 t429 p434 q434
              cases e434
              replace p434 := eq_true p434
              replace q434 := eq_true q434
              have p435 : 0 ≤ ((ji27) : Int) := dT_
              have q435 : (ji27) < (t431.length : Int) := dT_
              obtain ⟨ad435, e435, hx435_0, hx435_1⟩ := at_T39 (Kd.R_reads' HO433.out).2.2 (ji27) p435 q435
              obtain rfl : ad434 = ad435 := (by injection e435)
              replace p435 := eq_true p435
              replace q435 := eq_true q435
              go_wp2
              go_meet
              case rel => exact ⟨_, ((((rd_T39 t431 (ji27)).f0) != ((a1 + ((a2 - 1) % 4294967296)) % 4294967296))), (by first | rfl | (simp; done) | (simp only [← hji27] <;> (first | rfl | simp)) | (simp [*]; done)), H', ⟨r2_⟩, ⟨rM_ HO433.out⟩, ⟨vM_ HO0_0.out⟩, ⟨vM_ HO0_1.out⟩, ⟨vM_ HO0_3.out⟩, ⟨bT_ BK426.out⟩, ⟨bT_ BK427.out⟩, ⟨beT_⟩⟩
            rw [if_neg c29] at H
            exact absurd H (by simp)
          rw [if_neg c28] at H
          exact absurd H (by simp)
        rw [if_neg c26] at H
        have c26b0 : (((rd_T39 t431 t429).f0) == a1) = false := beq_eq_false_iff_ne.mpr c26
        have c26b1 : (((rd_T39 t431 t429).f0) != a1) = true := bne_iff_ne.mpr c26
        have H' := Aside0.mk H
        clear H
        obtain ⟨Ao31, co31, eo31⟩ := Kd.R_slice HO433.out
        subst eo31
        have p434 : 0 ≤ (t429 : Int) := dT_
        have q434 : t429 < (t431.length : Int) := dT_
        obtain ⟨ad434, e434, hx434_0, hx434_1⟩ := at_T39 (Kd.R_reads' HO433.out).2.2 t429 p434 q434
        cases e434
        replace p434 := eq_true p434
        replace q434 := eq_true q434
        go_wp2
        go_meet
        case rel => exact ⟨_, (true), r1_, H', ⟨r2_⟩, ⟨rM_ HO433.out⟩, ⟨vM_ HO0_0.out⟩, ⟨vM_ HO0_1.out⟩, ⟨vM_ HO0_3.out⟩, ⟨bT_ BK426.out⟩, ⟨bT_ BK427.out⟩, ⟨beT_⟩⟩
      rw [if_neg c25] at H
      exact absurd H (by simp)
    rw [if_neg c24] at H
    exact absurd H (by simp)
  case rest =>
    clear HC14
    try clear c1
    try clear c2
    try clear p2
    try clear c3
    try clear c4
    try clear p4
    try clear q4
    try clear hx4
    try clear c6
    try clear p6
    try clear c9
    try clear c17
    try clear c19
    try clear c22
    try clear c22b0
    try clear c24
    try clear c24b0
    try clear c25
    try clear c25b0
    try clear c26
    try clear c26b0
    try clear c26b1
    try clear c28
    try clear c28b0
    try clear c29
    try clear c29b0
    try clear c31
    try clear hcz10_0
    try clear hcz10_1
    try clear hcz10_2
    try clear hcz10_3
    try clear hcz11_0
    try clear hcz11_1
    try clear hcz11_2
    try clear hcz11_3
    try clear hcz18_0
    try clear hcz18_1
    try clear hcz18_2
    try clear hcz18_3
    try clear hcz20_0
    try clear hcz20_1
    try clear hcz20_2
    try clear hcz20_3
    try clear hfz10_0
    try clear hfz10_1
    try clear hfz10_2
    try clear hfz10_3
    try clear hfz11_0
    try clear hfz11_1
    try clear hfz11_2
    try clear hfz11_3
    try clear hfz18_0
    try clear hfz18_1
    try clear hfz18_2
    try clear hfz18_3
    try clear hfz20_0
    try clear hfz20_1
    try clear hfz20_2
    try clear hfz20_3
    try clear hx434_0
    try clear hx434_1
    try clear hx435_0
    try clear hx435_1
    try clear p434
    try clear p435
    try clear q434
    try clear q435
    obtain ⟨kq, x60_13, rfl, HA, HJ13, HO_12, HO_427000, HO_427001, HO_427003, BK426, BK427, HB⟩ := hcut
    cases kq with
    | zero => exact absurd HA.out (by simp [guest_Protect.j0])
    | succ kj13 =>
      have H := HA.out
      clear HA
      simp only [guest_Protect.j0] at H
      by_cases c32 : x60_13 = true
      · subst c32
        replace H := hP_ H
        simp only [Option.some.injEq, Prod.mk.injEq] at H
        obtain ⟨rfl, rfl, rfl, rfl, rfl⟩ := H
        have hnb33 := NB426_427.out
        have hnc33 := NB427_426.out
        obtain ⟨hcz34_0, hcz34_1, hcz34_2, hcz34_3, hfz34_0, hfz34_1, hfz34_2, hfz34_3⟩ := b4_ BK426.out
        obtain ⟨hcz35_0, hcz35_1, hcz35_2, hcz35_3, hfz35_0, hfz35_1, hfz35_2, hfz35_3⟩ := b4_ BK427.out
        go_wp2
        refine bodyPost_ret (results_ct rfl _ _ gb427 29 #[.slice A0_0 l0_0.length c0_0, .slice A0_1 l0_1.length c0_1, .int .u64 a0_2, .slice A0_3 l0_3.length c0_3] (0, 0) _ rfl (kP_ BK427.out) Try.underlying29 rfl (by kernel_rfl)) rfl ?_
        exact ⟨_, _, _, r3_, (vF_ HO_427000.out), (vF_ HO_427001.out), (vF_ HO_427003.out), beT_⟩
      replace c32 := Bool.eq_false_iff.mpr c32
      subst c32
      replace H := hN_ H
      by_cases c36 : 0 ≤ t429
      · rw [if_pos c36] at H
        have c36b0 := eq_true c36
        have c36b1 : decide (0 ≤ t429) = true := decide_eq_true c36
        clear c36
        by_cases c37 : t429 ≤ (wrap64 (t429 + (wrap64 (a2))))
        · rw [if_pos c37] at H
          have c37b0 := eq_true c37
          have c37b1 : decide (t429 ≤ (wrap64 (t429 + (wrap64 (a2))))) = true := decide_eq_true c37
          by_cases c38 : (wrap64 (t429 + (wrap64 (a2)))) ≤ (t431.length : Int)
          · rw [if_pos c38] at H
            have c38b0 := eq_true c38
            have c38b1 : decide ((wrap64 (t429 + (wrap64 (a2)))) ≤ (t431.length : Int)) = true := decide_eq_true c38
            obtain ⟨y436, hy436⟩ : ∃ y_ : List (S39), y_ = ((t431.take ((wrap64 (t429 + (wrap64 (a2)))) : Int).toNat).drop (t429 : Int).toNat) := ⟨_, rfl⟩
            replace H : (guest_Protect.l0 kj13 a3 t429 t431 (y436.length : Int) 0 l0_0 l0_1 a0_2 l0_3) = some (r1, r2, r3, r4, r5) := by first | (rw [hy436]; with_reducible exact H) | (have H2_ := (Option.bind_some _ _).symm.trans H; rw [hy436]; with_reducible exact H2_) | (have H2_ := (Option.bind_some _ _).symm.trans H; with_reducible exact H2_) | with_reducible exact H | (rw [hy436]; exact H) | exact H
            have Ny436 := Aside0.mk hy436
            clear hy436
            have H' := Aside0.mk H
            clear H
            obtain ⟨Ao40, co40, eo40⟩ := Kd.R_slice HO_12.out
            subst eo40
            have q39 : ((wrap64 (t429 + (wrap64 (a2)))) : Int) ≤ ((t431.length : Int) : Int) := dT_
            obtain ⟨i039, hi039, _, hsz39, _⟩ := info_parts info39
            have hroom39 : t431.length ≤ co40 := (Kd.R_reads' HO_12.out).2.1
            have hC39 : Kd.C k39 _ Ao40 t431.length t431 := (Kd.R_reads' HO_12.out).2.2
            have ql39 : (t429 : Int) ≤ ((wrap64 (t429 + (wrap64 (a2)))) : Int) := dT_
            have q039 : (0 : Int) ≤ (t429 : Int) := dT_
            have hcut39 := cut_mid (P := Try.prog) 27 39 .i64 .i64 Try.underlying27 hi039 2 hsz39 Ao40 t431.length co40 t429 (wrap64 (t429 + (wrap64 (a2)))) q039 ql39 q39 hroom39
            have hr39 := Kd.C_mid (lo := (t429 : Int).toNat) (hi := ((wrap64 (t429 + (wrap64 (a2)))) : Int).toNat) (c := co40) hC39 (by omega) (by omega) hroom39
            obtain ⟨A39, hA39⟩ : ∃ A1, A1 = (if co40 = (t429 : Int).toNat then Ao40 else (Ao40 : Option Addr).map (·.add ((t429 : Int).toNat * 2))) := ⟨_, rfl⟩
            obtain ⟨c39, hc39⟩ : ∃ c1, c1 = co40 - (t429 : Int).toNat := ⟨_, rfl⟩
            have hy39 : y436.length = ((wrap64 (t429 + (wrap64 (a2)))) : Int).toNat - (t429 : Int).toNat := (by rw [Ny436.out, List.length_drop, List.length_take] <;> omega)
            rw [show ((t431).take ((wrap64 (t429 + (wrap64 (a2)))) : Int).toNat).drop (t429 : Int).toNat = y436 from Ny436.out.symm] at hr39
            replace hr39 : Kd.C k39 _ A39 y436.length y436 := (by rw [hA39]; exact hr39)
            rw [← hy39, ← hA39, ← hc39] at hcut39
            have HR439 := Aside0.mk hr39
            have HC439 := Aside0.mk (show y436.length ≤ c39 from by rw [hy39, hc39]; exact Nat.sub_le_sub_right (Nat.le_trans (by omega) hroom39) _)
            clear hr39 hC39 hroom39 hi039 hsz39 hc39
            have KY39 := Aside0.mk hy39
            have KA39 := Aside0.mk hA39
            clear hy39 hA39
            have KL39 := Aside0.mk (show ((wrap64 (t429 + (wrap64 (a2)))) : Int).toNat ≤ t431.length from by omega)
            have KM39 := Aside0.mk (show (t429 : Int).toNat ≤ ((wrap64 (t429 + (wrap64 (a2)))) : Int).toNat from by omega)
            replace q39 := eq_true q39
            go_wp2
            go_loopg [70] kj13 (fun kq v70 w' => ∃ (x12_2 : List (S39)) (x70_2 : Int), v70 = .int .i64 x70_2 ∧ Aside0 (guest_Protect.l0 kq a3 t429 x12_2 (y436.length : Int) x70_2 l0_0 l0_1 a0_2 l0_3 = some (r1, r2, r3, r4, r5)) ∧ Aside0 (kq ≤ kj13) ∧ Aside0 (Kd.R k39 39 w' w.heap.size (fun k_ => (w.heap.size ≤ k_)) (.slice Ao40 t431.length co40) x12_2) ∧ Aside0 (Kd.V k55 55 w' w.heap.size (fun k_ => ((P0_0_ k_ ∨ P0_1_ k_ ∨ P0_3_ k_) ∨ w.heap.size ≤ k_) ∧ some k_ ≠ ((.slice Ao40 t431.length co40) : Value).ownBlock ∧ k_ ≠ gb426 ∧ k_ ≠ gb427) (.slice A0_0 l0_0.length c0_0) l0_0) ∧ Aside0 (Kd.V k60 60 w' w.heap.size (fun k_ => ((P0_0_ k_ ∨ P0_1_ k_ ∨ P0_3_ k_) ∨ w.heap.size ≤ k_) ∧ some k_ ≠ ((.slice Ao40 t431.length co40) : Value).ownBlock ∧ k_ ≠ gb426 ∧ k_ ≠ gb427) (.slice A0_1 l0_1.length c0_1) l0_1) ∧ Aside0 (Kd.V k39 39 w' w.heap.size (fun k_ => ((P0_0_ k_ ∨ P0_1_ k_ ∨ P0_3_ k_) ∨ w.heap.size ≤ k_) ∧ some k_ ≠ ((.slice Ao40 t431.length co40) : Value).ownBlock ∧ k_ ≠ gb426 ∧ k_ ≠ gb427) (.slice A0_3 l0_3.length c0_3) l0_3) ∧ Aside0 (w'.heap[gb426]? = some (.cells #[(.slice A0_0 l0_0.length c0_0), (.slice A0_1 l0_1.length c0_1), .int .u64 a0_2, (.slice A0_3 l0_3.length c0_3)] 29 (0, 0))) ∧ Aside0 (w'.heap[gb427]? = some (.cells #[(.slice none 0 0), (.slice none 0 0), .int .u64 0, (.slice none 0 0)] 29 (0, 0))) ∧ Aside0 (Below w.heap.size w w'))
            case atStart => exact ⟨(t431), (0), r1_, H', ⟨Nat.le_refl _⟩, ⟨rT_ HO_12.out⟩, ⟨vT_ HO_427000.out⟩, ⟨vT_ HO_427001.out⟩, ⟨vT_ HO_427003.out⟩, ⟨bT_ BK426.out⟩, ⟨bT_ BK427.out⟩, ⟨beT_⟩⟩
            case round =>
              clear H'
              try clear c1
              try clear c2
              try clear p2
              try clear c3
              try clear q3
              try clear c4
              try clear p4
              try clear q4
              try clear hx4
              try clear c6
              try clear p6
              try clear c9
              try clear c17
              try clear c19
              try clear c22
              try clear c22b0
              try clear c24
              try clear c24b0
              try clear c25
              try clear c25b0
              try clear c26
              try clear c26b0
              try clear c26b1
              try clear c28
              try clear c28b0
              try clear c29
              try clear c29b0
              try clear c31
              try clear c32
              try clear c33
              try clear c36
              try clear c36b0
              try clear c36b1
              try clear c37
              try clear c37b0
              try clear c37b1
              try clear c38
              try clear c38b0
              try clear c38b1
              try clear c39
              try clear q39
              try clear hcz10_0
              try clear hcz10_1
              try clear hcz10_2
              try clear hcz10_3
              try clear hcz11_0
              try clear hcz11_1
              try clear hcz11_2
              try clear hcz11_3
              try clear hcz18_0
              try clear hcz18_1
              try clear hcz18_2
              try clear hcz18_3
              try clear hcz20_0
              try clear hcz20_1
              try clear hcz20_2
              try clear hcz20_3
              try clear hcz34_0
              try clear hcz34_1
              try clear hcz34_2
              try clear hcz34_3
              try clear hcz35_0
              try clear hcz35_1
              try clear hcz35_2
              try clear hcz35_3
              try clear hfz10_0
              try clear hfz10_1
              try clear hfz10_2
              try clear hfz10_3
              try clear hfz11_0
              try clear hfz11_1
              try clear hfz11_2
              try clear hfz11_3
              try clear hfz18_0
              try clear hfz18_1
              try clear hfz18_2
              try clear hfz18_3
              try clear hfz20_0
              try clear hfz20_1
              try clear hfz20_2
              try clear hfz20_3
              try clear hfz34_0
              try clear hfz34_1
              try clear hfz34_2
              try clear hfz34_3
              try clear hfz35_0
              try clear hfz35_1
              try clear hfz35_2
              try clear hfz35_3
              try clear hx434_0
              try clear hx434_1
              try clear hx435_0
              try clear hx435_1
              try clear p2
              try clear p4
              try clear p434
              try clear p435
              try clear p6
              try clear q039
              try clear q39
              try clear q4
              try clear q434
              try clear q435
              obtain ⟨x12_2, x70_2, rfl, HA, HK2, HO_12, HO_427000, HO_427001, HO_427003, BK426, BK427, HB⟩ := hrel
              have hl12_2 := (Kd.R_reads' HO_12.out).1
              rw [hl12_2] at HO_12
              (try simp only [hl12_2])
              (try simp only [hl12_2] at BK426)
              (try simp only [hl12_2] at BK427)
              (try simp only [hl12_2] at HO_427000)
              (try simp only [hl12_2] at HO_427001)
              (try simp only [hl12_2] at HO_427003)
              cases gk with
              | zero => exact absurd HA.out (by simp [guest_Protect.l0])
              | succ k2 =>
                have H := HA.out
                clear HA
                simp only [guest_Protect.l0] at H
                by_cases c41 : x70_2 < (y436.length : Int)
                · rw [if_pos c41] at H
                  have c41b0 : decide (x70_2 < (y436.length : Int)) = true := decide_eq_true c41
                  clear c41
                  obtain ⟨ji42, hji42⟩ : ∃ j_ : Int, (wrap64 (t429 + x70_2)) = j_ := ⟨_, rfl⟩
                  replace H : (if 0 ≤ (ji42) then (if (ji42) < (x12_2.length : Int) then (guest_Protect.l0 k2 a3 t429 (x12_2.set ((ji42) : Int).toNat (⟨(rd_T39 x12_2 (ji42)).f0, a3⟩ : S39)) (y436.length : Int) (wrap64 (x70_2 + 1)) l0_0 l0_1 a0_2 l0_3) else (none)) else (none)) = some (r1, r2, r3, r4, r5) := by first | (rw [hji42] at H; exact H) | (simp only [hji42] at H ⊢; exact H)
                  have hji42w : (IntKind.i64.wrap (t429 + x70_2)) = ji42 := (i64_w _).trans hji42
                  by_cases c43 : 0 ≤ (ji42)
                  · rw [if_pos c43] at H
                    have c43b0 : decide (0 ≤ (ji42)) = true := decide_eq_true c43
                    clear c43
                    by_cases c44 : (ji42) < (x12_2.length : Int)
                    · rw [if_pos c44] at H
                      have c44b0 : decide ((ji42) < (x12_2.length : Int)) = true := decide_eq_true c44
                      clear c44
                      obtain ⟨y440, hy440⟩ : ∃ y_ : List (S39), y_ = (x12_2.set ((ji42) : Int).toNat (⟨(rd_T39 x12_2 (ji42)).f0, a3⟩ : S39)) := ⟨_, rfl⟩
                      replace H : (guest_Protect.l0 k2 a3 t429 y440 (y436.length : Int) (wrap64 (x70_2 + 1)) l0_0 l0_1 a0_2 l0_3) = some (r1, r2, r3, r4, r5) := by first | (rw [hy440]; with_reducible exact H) | (have H2_ := (Option.bind_some _ _).symm.trans H; rw [hy440]; with_reducible exact H2_) | (have H2_ := (Option.bind_some _ _).symm.trans H; with_reducible exact H2_) | with_reducible exact H | (rw [hy440]; exact H) | exact H
                      have Ny440 := Aside0.mk hy440
                      clear hy440
                      have H' := Aside0.mk H
                      clear H
                      have p45 : 0 ≤ ((ji42) : Int) := dT_
                      have q45 : ((ji42) : Int) < ((x12_2.length : Int) : Int) := dT_
                      obtain ⟨go45, co45, eo45, gb45, gl45, cl45, HG45⟩ := Kd.R_form HO_12.out (by omega)
                      (first | cases eo45 | (injection eo45 with ea_ en_ ec_; (first | subst ea_ | (injection ea_ with ea_; subst ea_)); subst ec_; clear en_))
                      have GB45 := Aside0.mk gb45
                      have GG45 := Aside0.mk HG45
                      clear gb45 gl45 HG45
                      obtain ⟨ce45, hcl45, hM45, hcc45, hfr45⟩ := Kd.R_elem HO_12.out z39 ((ji42) : Int) p45 q45
                      obtain rfl := k39_openM hM45
                      have hx45_0 : wr.cell? ⟨go45, ((ji42) : Int).toNat * 2, none⟩ = some (.int .u32 ((rd_T39 x12_2 (ji42)).f0)) := hcc45 0 _ rfl
                      have hx45_1 : wr.cell? ⟨go45, ((ji42) : Int).toNat * 2 + 1, none⟩ = some (.int .i64 ((rd_T39 x12_2 (ji42)).f1)) := hcc45 1 _ rfl
                      have hf45_0 : wr.frozen? ⟨go45, ((ji42) : Int).toNat * 2, none⟩ = false := hfr45 0
                      have hf45_1 : wr.frozen? ⟨go45, ((ji42) : Int).toNat * 2 + 1, none⟩ = false := hfr45 1
                      clear hcl45 hcc45 hfr45 hM45
                      replace p45 := eq_true p45
                      replace q45 := eq_true q45
                      have HX46 := Aside0.mk (show Kd.R k39 39 wr w.heap.size (fun k_ => (w.heap.size ≤ k_)) (.slice (some ⟨go45, 0, none⟩) x12_2.length co40) x12_2 from (rT_ HO_12.out))
                      obtain ⟨ce46, hcl46, hM46, hcc46, hfr46⟩ := Kd.R_elem HX46.out z39 ((ji42) : Int) (dT_) (by have h_ : ((ji42) : Int) < ((x12_2.length : Int) : Int) := dT_; first | exact h_ | (have e_ := (Kd.R_reads' HO_12.out).1; omega) | simpa using h_)
                      obtain rfl := k39_openM hM46
                      have HP46 := Kd.R_seg HX46.out ((ji42) : Int) (dT_) (by have h_ : ((ji42) : Int) < ((x12_2.length : Int) : Int) := dT_; first | exact h_ | (have e_ := (Kd.R_reads' HO_12.out).1; omega) | simpa using h_) (seg := [.int .i64 a3]) (j := 1) hcl46 hcc46 (show 2 ≤ 2 from by decide) (x' := (⟨(rd_T39 x12_2 (ji42)).f0, a3⟩ : S39)) (k39_mkM _ _ _ (⟨(rd_T39 x12_2 (ji42)).f0, a3⟩ : S39) ) (fun _ hk => hk)
                      have hx46_1 := hcc46 1 _ rfl
                      (try simp only [show (k39).sz = 2 from rfl, Nat.mul_one, Nat.add_zero] at hx46_1)
                      have hf46_1 := hfr46 1
                      (try simp only [show (k39).sz = 2 from rfl, Nat.mul_one, Nat.add_zero] at hf46_1)
                      clear hcl46 hcc46 hfr46 hM46
                      go_wp2_with (first | ((with_reducible refine gate_store (t := 3) (p := 79) rfl ?_); refine store_event (t := 3) (p := 79) (v := ?vo_w47) (w1 := (wr.setCell ⟨go45, ((ji42) : Int).toNat * 2 + 1, none⟩ (.int .i64 a3))) ?hg ?ho ?hn ?hr ?_; (case ho => rfl); (case hg => rfl); (case hn => rfl); (case hr => first | (go_simp; done) | (go_simp; rfl)); intro w47 hw; have hg : wr.grownBy w47 (some go45) := (by rw [hw]; exact HP46.2); have hp_ : Kd.R k39 39 w47 w.heap.size (fun k_ => (w.heap.size ≤ k_)) (.slice (some ⟨go45, 0, none⟩) x12_2.length co40) y440 := (by rw [hw, Ny440.out]; exact HP46.1); clear HP46; replace HO_427000 := Aside0.mk (Kd.V_afterv (v := (.slice (some ⟨go45, 0, none⟩) x12_2.length co40)) (v1 := (.slice (some ⟨go45, 0, none⟩) x12_2.length co40)) (ok := (fun k_ => ((P0_0_ k_ ∨ P0_1_ k_ ∨ P0_3_ k_) ∨ w.heap.size ≤ k_) ∧ k_ ≠ gb426 ∧ k_ ≠ gb427)) (vM_ HO_427000.out) hg (.inl rfl)); replace HO_427001 := Aside0.mk (Kd.V_afterv (v := (.slice (some ⟨go45, 0, none⟩) x12_2.length co40)) (v1 := (.slice (some ⟨go45, 0, none⟩) x12_2.length co40)) (ok := (fun k_ => ((P0_0_ k_ ∨ P0_1_ k_ ∨ P0_3_ k_) ∨ w.heap.size ≤ k_) ∧ k_ ≠ gb426 ∧ k_ ≠ gb427)) (vM_ HO_427001.out) hg (.inl rfl)); replace HO_427003 := Aside0.mk (Kd.V_afterv (v := (.slice (some ⟨go45, 0, none⟩) x12_2.length co40)) (v1 := (.slice (some ⟨go45, 0, none⟩) x12_2.length co40)) (ok := (fun k_ => ((P0_0_ k_ ∨ P0_1_ k_ ∨ P0_3_ k_) ∨ w.heap.size ≤ k_) ∧ k_ ≠ gb426 ∧ k_ ≠ gb427)) (vM_ HO_427003.out) hg (.inl rfl)); replace BK426 := kG_ BK426.out hg (Kd.R_ne HO_12.out BK426.out (by decide)); replace BK427 := kG_ BK427.out hg (Kd.R_ne HO_12.out BK427.out (by decide)); replace HO_12 := Aside0.mk hp_; replace HB := Aside0.mk ((by rw [hw]; exact below_set (HB.out) GB45.out : Below w.heap.size w w47)); clear hg hw hp_))
                      (try simp only [← hl12_2])
                      go_roundg k2
                      case measure => have := HJ13.out; have := HK2.out; omega
                      case rel => exact ⟨(y440), (wrap64 (x70_2 + 1)), r1_, H', ⟨by have := HJ13.out; have := HK2.out; omega⟩, ⟨by (try simp only [hl12_2]); (with_reducible repeat (first | apply Kd.R_alloc | apply Kd.R_drewN | apply Kd.R_drew)); exact HO_12.out⟩, ⟨by (try simp only [hl12_2]); (with_reducible repeat (first | apply Kd.V_alloc | apply Kd.V_drewN | apply Kd.V_drew)); exact Kd.V_mono HO_427000.out (fun _ hk => ⟨hk.1.1, ⟨hk.2, ⟨hk.1.2.1, hk.1.2.2⟩⟩⟩)⟩, ⟨by (try simp only [hl12_2]); (with_reducible repeat (first | apply Kd.V_alloc | apply Kd.V_drewN | apply Kd.V_drew)); exact Kd.V_mono HO_427001.out (fun _ hk => ⟨hk.1.1, ⟨hk.2, ⟨hk.1.2.1, hk.1.2.2⟩⟩⟩)⟩, ⟨by (try simp only [hl12_2]); (with_reducible repeat (first | apply Kd.V_alloc | apply Kd.V_drewN | apply Kd.V_drew)); exact Kd.V_mono HO_427003.out (fun _ hk => ⟨hk.1.1, ⟨hk.2, ⟨hk.1.2.1, hk.1.2.2⟩⟩⟩)⟩, ⟨by (try simp only [hl12_2]); (with_reducible repeat (first | refine blk_drewN ?_ _ | refine blk_drew ?_ | refine blk_alloc ?_ _)); exact BK426.out⟩, ⟨by (try simp only [hl12_2]); (with_reducible repeat (first | refine blk_drewN ?_ _ | refine blk_drew ?_ | refine blk_alloc ?_ _)); exact BK427.out⟩, ⟨beT_⟩⟩
                    rw [if_neg c44] at H
                    exact absurd H (by simp)
                  rw [if_neg c43] at H
                  exact absurd H (by simp)
                rw [if_neg c41] at H
                have c41b0 : decide (x70_2 < (y436.length : Int)) = false := decide_eq_false c41
                clear c41
                simp only [Option.some.injEq, Prod.mk.injEq] at H
                obtain ⟨rfl, rfl, rfl, rfl, rfl⟩ := H
                have hnb48 := NB426_427.out
                have hnc48 := NB427_426.out
                obtain ⟨hcz49_0, hcz49_1, hcz49_2, hcz49_3, hfz49_0, hfz49_1, hfz49_2, hfz49_3⟩ := b4_ BK426.out
                obtain ⟨hcz50_0, hcz50_1, hcz50_2, hcz50_3, hfz50_0, hfz50_1, hfz50_2, hfz50_3⟩ := b4_ BK427.out
                go_wp2
                refine bodyPost_ret (results_ct rfl _ _ gb427 29 #[.slice A0_0 l0_0.length c0_0, .slice A0_1 l0_1.length c0_1, .int .u64 a0_2, .slice Ao40 x12_2.length co40] (0, 0) _ rfl (kP_ BK427.out) Try.underlying29 rfl (by kernel_rfl)) rfl ?_
                exact ⟨_, _, _, r3_, (vF_ HO_427000.out), (vF_ HO_427001.out), Kd.V_mono (Kd.R_V (by (with_reducible repeat (first | apply Kd.R_alloc | apply Kd.R_drewN | apply Kd.R_drew)); exact Kd.R_far (p := ⟨gb427, 3, none⟩) (Kd.R_far (p := ⟨gb427, 2, none⟩) (Kd.R_far (p := ⟨gb427, 1, none⟩) (Kd.R_far (p := ⟨gb427, 0, none⟩) (Kd.R_far (p := ⟨gb426, 3, none⟩) (Kd.R_types (Kd.R_types HO_12.out BK426.out (by decide)) BK427.out (by decide)) (fun _ hk => hk.1.2) (.slice Ao40 x12_2.length co40)) (fun _ hk => hk.2) (.slice A0_0 l0_0.length c0_0)) (fun _ hk => hk.2) (.slice A0_1 l0_1.length c0_1)) (fun _ hk => hk.2) (.int .u64 a0_2)) (fun _ hk => hk.2) (.slice Ao40 x12_2.length co40))) (fun k_ hk => by exact .inr hk.1.1), beT_⟩
          rw [if_neg c38] at H
          exact absurd H (by simp)
        rw [if_neg c37] at H
        exact absurd H (by simp)
      rw [if_neg c36] at H
      exact absurd H (by simp)

end Go.Proofs.Ytjhfglpgpicmiaa.F
end
