import Derived.Test.YtgkjdpdmmlalcaaVZF0
import Derived.Test.YtgkjdpdmmlalcaaVA0
import Derived.Test.YtgkjdpdmmlalcaaVA1HHost1
import Derived.Test.YtgkjdpdmmlalcaaVA2HHost2
import Derived.Test.YtgkjdpdmmlalcaaVA3
import Derived.Test.YtgkjdpdmmlalcaaVA4HHost3
section
namespace Go.Proofs.Ytgkjdpdmmlalcaa.F
open Go.RowKit Go.Shelf Go.Proofs.YtgkjdpdmmlalcaaW.PrintWords Go.Proofs.YtgkjdpdmmlalcaaW.PrintLast Go.Proofs.YtgkjdpdmmlalcaaW.PrintMore
set_option linter.unusedVariables false
set_option linter.unusedSimpArgs false
def moreP (a1 : Int) (n : Nat) (a3 : Int) : List S83 := (List.range n).map (fun i : Nat => ⟨IntKind.u64.wrap (a1 + ((i : Nat) : Int)), a3⟩)
-- HAND fn=ferry/host.Map ; rounds=0 ; making=1 ; laid=0 ; share=0_0,0_1 ; views=0,1
def host_Map.f (l0_0 : List S83) (l0_1 : List S88) (a1 a2 a3 : Int) : Option (List S83 × List S88 × Int) :=
  (host_wrong.f a1 a2 a3).bind fun t => if t = true then some (l0_0, l0_1, 22) else if l0_0.length ≤ 1000000 then (if l0_0.any (fun x => withB x.f0 a1 a2) = true then some (l0_0, l0_1, 17) else if a2 > IntKind.u64.wrap (wrap64 (64 - (l0_0.length : Int))) then some (l0_0, l0_1, 105) else if 0 < a2 ∧ a2 ≤ 1000000 ∧ risesB mpK l0_0 = true then some (l0_0.take (lowB mpK a1 l0_0) ++ moreP a1 a2.toNat a3 ++ l0_0.drop (lowB mpK a1 l0_0), l0_1, 0) else none) else none
theorem map_at_some {l0_0 : List S83} (l0_1 : List S88) (a1 : Int) (h : l0_0.length ≤ 1000000) (hr : risesB mpK l0_0 = true) : host_mapAt.f l0_0 l0_1 a1 = some (((lowB mpK a1 l0_0 : Nat) : Int), has mpK a1 l0_0) := by
  unfold host_mapAt.f
  rw [if_pos ⟨h, hr⟩]
set_option maxHeartbeats 8000000 in
set_option maxRecDepth 100000 in
theorem host_Map.calls (P0_0_ : Nat → Prop) (A0_0 : Option Addr) (c0_0 : Nat) (l0_0 : List S83) (P0_1_ : Nat → Prop) (A0_1 : Option Addr) (c0_1 : Nat) (l0_1 : List S88) (a1 a2 a3 : Int) (r1 : List S83) (r2 : List S88) (r3 : Int) (w : World) (hs0_0 : Kd.V k83 83 w w.heap.size (fun k_ => P0_0_ k_) (.slice A0_0 l0_0.length c0_0) l0_0) (hs0_1 : Kd.V k88 88 w w.heap.size (fun k_ => P0_1_ k_) (.slice A0_1 l0_1.length c0_1) l0_1) (h : host_Map.f l0_0 l0_1 a1 a2 a3 = some (r1, r2, r3)) :
    Calls Try.prog 96 #[.agg #[.slice A0_0 l0_0.length c0_0, .slice A0_1 l0_1.length c0_1], .int .u64 a1, .int .u64 a2, .int .i64 a3] w fun e w' => ∃ v0_ v1_ : Value, e = .returned (.tuple #[.agg #[v0_, v1_], .int .i64 r3]) ∧ Kd.V k83 83 w' w.heap.size (fun k_ => ((P0_0_ k_ ∨ P0_1_ k_) ∨ w.heap.size ≤ k_)) v0_ r1 ∧ Kd.V k88 88 w' w.heap.size (fun k_ => ((P0_0_ k_ ∨ P0_1_ k_) ∨ w.heap.size ≤ k_)) v1_ r2 ∧ Below w.heap.size w w' := by
  unfold host_Map.f at h
  obtain ⟨t, ht, h⟩ := Option.bind_eq_some_iff.1 h
  have WR := Lib.hid (fun w => host_wrong.calls a1 a2 a3 t w ht)
  clear ht
  have VM := Lib.hid hs0_0
  have VC := Lib.hid hs0_1
  have CM := Lib.hid (Kd.V_reads' hs0_0)
  have CC := Lib.hid (Kd.V_reads' hs0_1)
  have U0 := Lib.hid (UmW.first w (.slice A0_0 l0_0.length c0_0) (.slice A0_1 l0_1.length c0_1) a1 a2)
  clear hs0_0 hs0_1
  have hu := Try.underlying25
  go_enter Try.func96, Try.ntmps96
  have p0 := (sblk_cell U0.out.p 0).trans rfl
  have q0 := (sblk_cell U0.out.q 0).trans rfl
  go_wp2_with (fail)
  refine (WR.out _).mono ?_
  rintro e w1 ⟨rfl, ⟨nd, rfl⟩⟩
  have U1 := Lib.hid (U0.out.below (pw_below_drewN (Below.refl _ _) nd))
  clear U0 p0 q0 WR
  generalize World.drewN _ nd = w1 at U1 ⊢
  have h0 := (sblk_cell U1.out.h 0).trans rfl
  have h1 := (sblk_cell U1.out.h 1).trans rfl
  have r0 := (sblk_cell U1.out.r 0).trans rfl
  have r1 := (sblk_cell U1.out.r 1).trans rfl
  have z0 := sblk_free U1.out.r 0
  have z1 := sblk_free U1.out.r 1
  cases t
  rotate_left
  · rw [if_pos rfl] at h
    obtain ⟨rfl, h'⟩ := Prod.mk.inj (Option.some.inj h)
    obtain ⟨rfl, rfl⟩ := Prod.mk.inj h'
    clear h h'
    go_wp2
    have U2 := U1.out.setR (.slice A0_0 l0_0.length c0_0) (.slice A0_1 l0_1.length c0_1)
    have f0 := (sblk_cell U2.r 0).trans rfl
    have f1 := (sblk_cell U2.r 1).trans rfl
    exact bodyPost_ret (v := .tuple #[.agg #[.slice A0_0 l0_0.length c0_0, .slice A0_1 l0_1.length c0_1], .int .i64 22]) (by simp [results, Try.results96, go_sem, f0, f1]) rfl ⟨_, _, rfl, view_old VM.out U2.bel (fun k hk => .inl (.inl hk)), view_old VC.out U2.bel (fun k hk => .inl (.inr hk)), U2.bel⟩
  rw [if_neg (by simp)] at h
  split at h
  rotate_left
  · cases h
  rename_i hl
  go_wp2_with (fail)
  refine (mp_any.calls (fun x => withB x.f0 a1 a2) 124 #[.pointer (some ⟨w.heap.size + 1, 0, none⟩), .pointer (some ⟨w.heap.size + 1 + 1, 0, none⟩)] (fun _ _ => by kernel_rfl) A0_0 c0_0 l0_0 w1 (Kd.C_below CM.out.2.2 U1.out.bel) CM.out.2.1 hl (fun x W hb => mp_map.calls x _ _ a1 a2 W (U1.out.below hb).p (U1.out.below hb).q)).mono ?_
  rintro e w2 ⟨rfl, hb⟩
  have U2 := Lib.hid (U1.out.below hb)
  clear hb h0 h1 r0 r1 z0 z1 U1
  have h0 := (sblk_cell U2.out.h 0).trans rfl
  have h1 := (sblk_cell U2.out.h 1).trans rfl
  have q0 := (sblk_cell U2.out.q 0).trans rfl
  have r0 := (sblk_cell U2.out.r 0).trans rfl
  have r1 := (sblk_cell U2.out.r 1).trans rfl
  have z0 := sblk_free U2.out.r 0
  have z1 := sblk_free U2.out.r 1
  cases hany : l0_0.any (fun x => withB x.f0 a1 a2)
  rotate_left
  · rw [hany, if_pos rfl] at h
    obtain ⟨rfl, h'⟩ := Prod.mk.inj (Option.some.inj h)
    obtain ⟨rfl, rfl⟩ := Prod.mk.inj h'
    clear h h' hany
    go_wp2
    have U3 := U2.out.setR (.slice A0_0 l0_0.length c0_0) (.slice A0_1 l0_1.length c0_1)
    have f0 := (sblk_cell U3.r 0).trans rfl
    have f1 := (sblk_cell U3.r 1).trans rfl
    exact bodyPost_ret (v := .tuple #[.agg #[.slice A0_0 l0_0.length c0_0, .slice A0_1 l0_1.length c0_1], .int .i64 17]) (by simp [results, Try.results96, go_sem, f0, f1]) rfl ⟨_, _, rfl, view_old VM.out U3.bel (fun k hk => .inl (.inl hk)), view_old VC.out U3.bel (fun k hk => .inl (.inr hk)), U3.bel⟩
  rw [hany, if_neg (by simp)] at h
  clear hany
  by_cases hfull : a2 > IntKind.u64.wrap (wrap64 (64 - (l0_0.length : Int)))
  · rw [if_pos hfull] at h
    obtain ⟨rfl, h'⟩ := Prod.mk.inj (Option.some.inj h)
    obtain ⟨rfl, rfl⟩ := Prod.mk.inj h'
    clear h h'
    have hw : wrap64 (64 - (l0_0.length : Int)) = 64 - (l0_0.length : Int) := by unfold wrap64; omega
    rw [hw] at hfull
    clear hw
    go_wp2
    have U3 := U2.out.setR (.slice A0_0 l0_0.length c0_0) (.slice A0_1 l0_1.length c0_1)
    have f0 := (sblk_cell U3.r 0).trans rfl
    have f1 := (sblk_cell U3.r 1).trans rfl
    exact bodyPost_ret (v := .tuple #[.agg #[.slice A0_0 l0_0.length c0_0, .slice A0_1 l0_1.length c0_1], .int .i64 105]) (by simp [results, Try.results96, go_sem, f0, f1]) rfl ⟨_, _, rfl, view_old VM.out U3.bel (fun k hk => .inl (.inl hk)), view_old VC.out U3.bel (fun k hk => .inl (.inr hk)), U3.bel⟩
  rw [if_neg hfull] at h
  split at h
  rotate_left
  · cases h
  rename_i hc
  obtain ⟨rfl, h'⟩ := Prod.mk.inj (Option.some.inj h)
  obtain ⟨rfl, rfl⟩ := Prod.mk.inj h'
  clear h h'
  have hw : wrap64 (64 - (l0_0.length : Int)) = 64 - (l0_0.length : Int) := by unfold wrap64; omega
  rw [hw] at hfull
  clear hw
  obtain ⟨hc0, hc1, hc2⟩ := hc
  obtain ⟨n, rfl⟩ := Int.eq_ofNat_of_zero_le (Int.le_of_lt hc0)
  obtain ⟨i0, hi0, hii⟩ := Option.map_eq_some_iff.1 info83
  simp only [Prod.mk.injEq] at hii
  obtain ⟨hz0, hzs, hzb⟩ := hii
  have hmk := run_make (P := Try.prog) w2 22 83 i0 _ Try.underlying22 hi0 hz0 .u64 .u64 (n : Int) (n : Int) (by omega) (by omega) (by rw [hzb]; omega) (by omega)
  simp only [Int.toNat_natCast, hzs] at hmk
  have hme := mp_flat_of (Kd.reps_made (R := (k83).M w2 0 (fun _ => True)) (z := (.agg #[(.int .u64 0), (.int .i64 0)] : Value)) (z0 := ⟨0, 0⟩) (size := 2) rfl (by decide) (k83_mkM _ _ _ _) n)
  have hms : (madeCells (.agg #[(.int .u64 0), (.int .i64 0)] : Value).cells (n * 2)).size = n * 2 := by simp [size_madeCells]
  generalize madeCells (.agg #[(.int .u64 0), (.int .i64 0)] : Value).cells (n * 2) = made at hmk hme hms
  have O3 := Lib.hid (show OwnB mpE 83 (w2.alloc (.cells made 83)) w2.heap.size n (List.replicate n ⟨0, 0⟩) from ⟨made, blk_new w2 _, hms, by omega, by rw [List.length_replicate]; exact Nat.le_refl _, by rw [List.length_replicate, hme]; exact List.take_of_length_le (by rw [flat_len mpE_2, List.length_replicate]; exact Nat.le_refl _)⟩)
  have U3 := Lib.hid (U2.out.below ((Below.refl _ w2).alloc (Nat.le_refl _) (.cells made 83)))
  have S2 := Lib.hid U2.out.s
  have Z3 := Lib.hid (show (w2.alloc (.cells made 83)).heap.size = w2.heap.size + 1 from World.size_alloc _ _)
  have HCF := Lib.hid hc2
  have HFU := Lib.hid hfull
  have hfu : decide (IntKind.u64.wrap (64 - (l0_0.length : Int)) < (n : Int)) = false := decide_eq_false (fun hh => hfull hh)
  clear hms hme hi0 hz0 hzs hzb hc2 hfull
  go_wp2
  clear hmk h0 h1 q0 r0 r1 z0 z1
  generalize w2.alloc (.cells made 83) = w3 at O3 U3 Z3 ⊢
  go_loopw [11, 39] (fun t11 t39 wr => ∃ k : Nat, t39 = .int .i64 k ∧ k ≤ n ∧ Hid (OwnB mpE 83 wr w2.heap.size n ((moreP a1 n a3).take k ++ (List.replicate n (⟨0, 0⟩ : S83)).drop k)) ∧ Hid (UmW w wr (.slice A0_0 l0_0.length c0_0) (.slice A0_1 l0_1.length c0_1) a1 n (.slice none 0 0) (.slice none 0 0)) ∧ Hid (w3.heap.size ≤ wr.heap.size)) (fun _ t39 _ => n - (intOf t39).toNat)
  case atStart => exact ⟨0, rfl, Nat.zero_le _, by simpa using O3, U3, Lib.hid (Nat.le_refl _)⟩
  case round =>
    obtain ⟨k, rfl, hk, O, U, Z⟩ := hrel
    have hml : (moreP a1 n a3).length = n := by simp [moreP]
    have hol : ((moreP a1 n a3).take k ++ (List.replicate n (⟨0, 0⟩ : S83)).drop k).length = n := by
      rw [List.length_append, List.length_take, List.length_drop, List.length_replicate, hml]
      omega
    by_cases hlt : k < n
    · have p0 := (sblk_cell U.out.p 0).trans rfl
      have e0 := O.out.cell mpE_2 (show k < _ by rw [hol]; exact hlt) (j := 0) (by omega)
      have e1 := O.out.cell mpE_2 (show k < _ by rw [hol]; exact hlt) (j := 1) (by omega)
      have z0 := O.out.free (k * 2)
      have z1 := O.out.free (k * 2 + 1)
      generalize ((moreP a1 n a3).take k ++ (List.replicate n (⟨0, 0⟩ : S83)).drop k)[k]'(by rw [hol]; exact hlt) = y at e0 e1
      simp only [mpE, List.getElem?_cons_zero, List.getElem?_cons_succ, Nat.add_zero] at e0 e1
      have HOL := Lib.hid hol
      have HML := Lib.hid hml
      clear hol hml
      have hu2 := Try.underlying83
      go_wp2
      have hg : wr.grownBy (wr.setCells w2.heap.size (k * 2) ([(⟨IntKind.u64.wrap (a1 + (k : Int)), a3⟩ : S83)].flatMap mpE)) (some w2.heap.size) := grown_setCells _ _
      refine ⟨⟨k + 1, by go_num, hlt, Lib.hid ?_, Lib.hid (U.out.step (below_of_grown (Below.refl _ _) hg S2.out U.out.s)), Lib.hid (Nat.le_trans Z.out hg.size)⟩, by simp [intOf]; omega⟩
      have h := O.out.put mpE_2 k [(⟨IntKind.u64.wrap (a1 + (k : Int)), a3⟩ : S83)] (by rw [HOL.out]; omega) (by simp; omega)
      have hkm : k < (moreP a1 n a3).length := by rw [HML.out]; exact hlt
      have hx : (moreP a1 n a3)[k] = ⟨IntKind.u64.wrap (a1 + (k : Int)), a3⟩ := by simp [moreP]
      have e1 : ((moreP a1 n a3).take k ++ (List.replicate n (⟨0, 0⟩ : S83)).drop k).take k = (moreP a1 n a3).take k := List.take_left' (by rw [List.length_take]; omega)
      have e2 : ((moreP a1 n a3).take k ++ (List.replicate n (⟨0, 0⟩ : S83)).drop k).drop (k + [(⟨IntKind.u64.wrap (a1 + (k : Int)), a3⟩ : S83)].length) = (List.replicate n (⟨0, 0⟩ : S83)).drop (k + 1) := by
        rw [List.length_singleton, ← List.drop_drop, List.drop_left' (by rw [List.length_take]; omega), List.drop_drop]
      rw [e1, e2, ← hx, ← List.take_succ_eq_append_getElem hkm] at h
      rw [hx] at h
      exact h
    obtain rfl : k = n := by omega
    have e1 : (moreP a1 k a3).take k ++ (List.replicate k (⟨0, 0⟩ : S83)).drop k = moreP a1 k a3 := by
      rw [List.take_of_length_le (by omega), List.drop_eq_nil_of_le (by rw [List.length_replicate]; exact Nat.le_refl _), List.append_nil]
    rw [e1] at O
    have HML := Lib.hid hml
    have p0 := (sblk_cell U.out.p 0).trans rfl
    have h0 := (sblk_cell U.out.h 0).trans rfl
    have h1 := (sblk_cell U.out.h 1).trans rfl
    clear hol hml e1
    go_wp2_with (fail)
    refine (host_mapAt.calls A0_0 c0_0 l0_0 A0_1 c0_1 l0_1 a1 _ _ wr (Kd.C_below CM.out.2.2 U.out.bel) CM.out.2.1 (Kd.C_below CC.out.2.2 U.out.bel) CC.out.2.1 (map_at_some l0_1 a1 hl HCF.out)).mono ?_
    rintro e w4 ⟨rfl, hb4⟩
    have U4 := Lib.hid (U.out.below hb4)
    have O4 := Lib.hid (O.out.below hb4)
    have Z4 := Lib.hid (Nat.le_trans Z.out hb4.size)
    clear p0 h0 h1 hb4
    have h0 := (sblk_cell U4.out.h 0).trans rfl
    have h1 := (sblk_cell U4.out.h 1).trans rfl
    go_wp2_with (fail)
    refine (mp_clone.calls A0_0 c0_0 l0_0 w4 (Kd.C_below CM.out.2.2 U4.out.bel) CM.out.2.1 hl).mono ?_
    rintro e w5 ⟨v1, rfl, hR1, hb5⟩
    have U5 := Lib.hid (U4.out.below hb5)
    have O5 := Lib.hid (O4.out.below hb5)
    have Z5 := Lib.hid hb5.size
    have RR := Lib.hid hR1
    clear h0 h1 hb5 hR1
    have hlo := lowB_le mpK a1 l0_0
    go_wp2_with (fail)
    have hml2 := HML.out
    have hb4s := Z4.out
    have hz3 := Z3.out
    have LL := Lib.hid hml2
    have hins := mp_insR.calls w4.heap.size _ v1 w2.heap.size k (lowB mpK a1 l0_0) l0_0 (moreP a1 k a3) w5 RR.out Z5.out O5.out (by omega) hl (by omega) (by omega) hlo
    rw [hml2] at hins
    refine hins.mono ?_
    clear hml2 hb4s hz3 hins
    rintro e w6 ⟨g', cap', rfl, hO, hg, hb6⟩
    have S6 := Lib.hid (show w.heap.size + 4 ≤ w4.heap.size from U4.out.s)
    have U6 := Lib.hid (U5.out.step (hb6.mono S6.out))
    have G6 := Lib.hid hg
    have O6 := Lib.hid hO
    clear hO hg hb6 hlo
    have h0 := (sblk_cell U6.out.h 0).trans rfl
    have h1 := (sblk_cell U6.out.h 1).trans rfl
    have z0 := sblk_free U6.out.h 0
    have r0 := (sblk_cell U6.out.r 0).trans rfl
    have r1 := (sblk_cell U6.out.r 1).trans rfl
    have y0 := sblk_free U6.out.r 0
    have y1 := sblk_free U6.out.r 1
    go_wp2
    have U7 := (U6.out.set0 (.slice (some ⟨g', 0, none⟩) (l0_0.length + k) cap')).setR (.slice (some ⟨g', 0, none⟩) (l0_0.length + k) cap') (.slice A0_1 l0_1.length c0_1)
    have f0 := (sblk_cell U7.r 0).trans rfl
    have f1 := (sblk_cell U7.r 1).trans rfl
    have s6 := S6.out
    have g6 := G6.out
    refine bodyPost_ret (v := .tuple #[.agg #[.slice (some ⟨g', 0, none⟩) (l0_0.length + k) cap', .slice A0_1 l0_1.length c0_1], .int .i64 0]) (by simp [results, Try.results96, go_sem, f0, f1]) rfl ⟨_, _, rfl, ?_, view_old VC.out U7.bel (fun k hk => .inl (.inr hk)), U7.bel⟩
    have hR := mp_R O6.out G6.out
    have hlen : (l0_0.take (lowB mpK a1 l0_0) ++ moreP a1 k a3 ++ l0_0.drop (lowB mpK a1 l0_0)).length = l0_0.length + k := by
      have := lowB_le mpK a1 l0_0
      have := LL.out
      rw [List.length_append, List.length_append, List.length_take, List.length_drop]
      omega
    rw [hlen] at hR
    exact Kd.V_mono (fresh_step (fresh_of hR) (fun k hk _ => (set_far (by omega)).trans ((set_far (by omega)).trans (set_far (by omega))))) (fun k hk => .inr (by omega))
end Go.Proofs.Ytgkjdpdmmlalcaa.F
end
section
namespace Go.Proofs.Ytgkjdpdmmlalcaa.F
open Go.RowKit Go.Shelf Go.Proofs.YtgkjdpdmmlalcaaW.PrintWords Go.Proofs.YtgkjdpdmmlalcaaW.PrintLast Go.Proofs.YtgkjdpdmmlalcaaW.PrintMore
set_option linter.unusedVariables false
set_option linter.unusedSimpArgs false
theorem mp_getR {l : List S83} {k : Nat} (h : k < l.length) : rd_T83 l (k : Int) = l[k] := by
  unfold rd_T83
  simp [h]
theorem cl_getR {l : List S88} {k : Nat} (h : k < l.length) : rd_T88 l (k : Int) = l[k] := by
  unfold rd_T88
  simp [h]
end Go.Proofs.Ytgkjdpdmmlalcaa.F
end
