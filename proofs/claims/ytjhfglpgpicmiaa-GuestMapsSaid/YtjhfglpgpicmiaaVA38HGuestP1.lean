import Derived.Test.YtjhfglpgpicmiaaVZF0
import Derived.Test.YtjhfglpgpicmiaaVA0
import Derived.Test.YtjhfglpgpicmiaaVA6HHost3
import Derived.Test.YtjhfglpgpicmiaaVA9
import Derived.Test.YtjhfglpgpicmiaaVA11
import Derived.Test.YtjhfglpgpicmiaaVA14
import Derived.Test.YtjhfglpgpicmiaaVA16
import Derived.Test.YtjhfglpgpicmiaaVA21HGuest4
import Derived.Test.YtjhfglpgpicmiaaVA22
import Derived.Test.YtjhfglpgpicmiaaVA23HGuest7
import Derived.Test.YtjhfglpgpicmiaaVA27PGuest2
import Derived.Test.YtjhfglpgpicmiaaVA28HGuest9
import Derived.Test.YtjhfglpgpicmiaaVA33PGuest3
import Derived.Test.YtjhfglpgpicmiaaVA34PGuest4
import Derived.Test.YtjhfglpgpicmiaaVA35
import Derived.Test.YtjhfglpgpicmiaaVA36FFerrylaw04Awake
import Derived.Test.YtjhfglpgpicmiaaVA37PGuest6
section
namespace Go.Proofs.Ytjhfglpgpicmiaa.F
open Go.RowKit Go.Shelf Go.Proofs.YtjhfglpgpicmiaaW.PrintWords Go.Proofs.YtjhfglpgpicmiaaW.PrintLast Go.Proofs.YtjhfglpgpicmiaaW.PrintMore
set_option linter.unusedVariables false
set_option linter.unusedSimpArgs false
def okP (x : SP) : Bool := decide ((0 ≤ x.f0 ∧ x.f0 ≤ 4294967295) ∧ ((-9223372036854775808) ≤ x.f1 ∧ x.f1 ≤ 9223372036854775807))
theorem okP_wf {p : List SP} (h : p.all okP = true) : ∀ x ∈ p, wfP x := fun x hx => by
  have := List.all_eq_true.1 h x hx
  unfold okP at this
  have h9 := of_decide_eq_true this
  exact h9
theorem okP_of {p : List SP} (h : ∀ x ∈ p, wfP x) : p.all okP = true := List.all_eq_true.2 (fun x hx => by
  unfold okP
  refine decide_eq_true ?_
  exact h x hx)
theorem few04_L {W : World} {v0 v1 v3 : Value} {l : List SM} {m : List SC} {b : Int} {p : List SP} (hG : GuestV W v0 v1 v3 l m p) : Calls Try.prog 8 #[.agg #[v0, v1, .int .u64 b, v3]] W fun e w' => e = .returned (.bool (few4 l m p)) ∧ Below W.heap.size W w' := by
  obtain ⟨⟨A0, c0, rfl, h0, k0⟩, ⟨A1, c1, rfl, h1, k1⟩, ⟨A3, c3, rfl, h3, k3⟩⟩ := hG
  exact ferrylaw04_few.calls A0 c0 l A1 c1 m b A3 c3 p _ W k0 h0 k1 h1 k3 h3 (few04 l m b p)
theorem awake04_L {W : World} : Calls Try.prog 10 #[] W fun e w' => e = .returned (.bool true) ∧ Below W.heap.size W w' := ferrylaw04_awake.calls 60 true W awake04_60

-- HAND fn=ferry/ferrylaw04.GuestMaps ; rounds=0 ; making=1 ; laid=0
def ferrylaw04_GuestMaps.f (l0_0 : List S55) (l0_1 : List S60) (a0_2 : Int) (l0_3 : List S39) (a1 a2 a3 : Int) : Option Bool := if okH l0_0 l0_1 = true ∧ (0 ≤ a0_2 ∧ a0_2 ≤ 18446744073709551615) ∧ l0_3.all okP = true ∧ (0 ≤ a1 ∧ a1 ≤ 4294967295) ∧ (0 ≤ a2 ∧ a2 ≤ 4294967295) ∧ (-9223372036854775808 ≤ a3 ∧ a3 ≤ 9223372036854775807) then some true else none
set_option maxHeartbeats 8000000 in
set_option maxRecDepth 100000 in
theorem ferrylaw04_GuestMaps.calls (A0_0 : Option Addr) (c0_0 : Nat) (l0_0 : List S55) (A0_1 : Option Addr) (c0_1 : Nat) (l0_1 : List S60) (a0_2 : Int) (A0_3 : Option Addr) (c0_3 : Nat) (l0_3 : List S39) (a1 a2 a3 : Int) (r : Bool) (w : World) (hr0_0 : Kd.C k55 w A0_0 l0_0.length l0_0) (hc0_0 : l0_0.length ≤ c0_0) (hr0_1 : Kd.C k60 w A0_1 l0_1.length l0_1) (hc0_1 : l0_1.length ≤ c0_1) (hr0_3 : Kd.C k39 w A0_3 l0_3.length l0_3) (hc0_3 : l0_3.length ≤ c0_3) (h : ferrylaw04_GuestMaps.f l0_0 l0_1 a0_2 l0_3 a1 a2 a3 = some r) :
    Calls Try.prog 5 #[.agg #[.slice A0_0 l0_0.length c0_0, .slice A0_1 l0_1.length c0_1, .int .u64 a0_2, .slice A0_3 l0_3.length c0_3], .int .u32 a1, .int .u32 a2, .int .i64 a3] w fun e w' => e = .returned (.bool r) ∧ Below w.heap.size w w' := by
  unfold ferrylaw04_GuestMaps.f at h
  split at h
  rotate_left
  · cases h
  rename_i hcond
  obtain rfl : true = r := Option.some.inj h
  clear h
  obtain ⟨ho, hb0, hop, ha1, ha2, ha3⟩ := hcond
  have WF := Lib.hid (okH_wf ho)
  have WP := Lib.hid (okP_wf hop)
  have WB := Lib.hid hb0
  clear ho hop hb0
  have X1 := Lib.hid (show 0 ≤ a1 ∧ a1 < 4294967296 by omega)
  have X2 := Lib.hid (show 0 ≤ a2 ∧ a2 < 4294967296 by omega)
  have X3 := Lib.hid ha3
  clear ha1 ha2 ha3
  have VG := Lib.hid (show GuestV w _ _ _ l0_0 l0_1 l0_3 from ⟨SlV.mk hr0_0 hc0_0, SlV.mk hr0_1 hc0_1, SlV.mk hr0_3 hc0_3⟩)
  clear hr0_0 hc0_0 hr0_1 hc0_1 hr0_3 hc0_3
  have hu := Try.underlying29
  have CH := Lib.hid (show Chain [w] w from ⟨Below.refl _ _, trivial⟩)
  go_enter Try.func5, Try.ntmps5
  go_upto_region 1 with (fail)
  replace CH := Lib.hid (CH.out.alloc (.cells #[.slice A0_0 l0_0.length c0_0, .slice A0_1 l0_1.length c0_1, .int .u64 a0_2, .slice A0_3 l0_3.length c0_3] 29))
  have BK4 := Lib.hid (blk_new w (.cells #[.slice A0_0 l0_0.length c0_0, .slice A0_1 l0_1.length c0_1, .int .u64 a0_2, .slice A0_3 l0_3.length c0_3] 29))
  generalize w.alloc (.cells #[.slice A0_0 l0_0.length c0_0, .slice A0_1 l0_1.length c0_1, .int .u64 a0_2, .slice A0_3 l0_3.length c0_3] 29) = y1 at CH BK4 ⊢
  replace CH := Lib.hid CH.out.push
  have q4_0 := (box_cell BK4.out CH.out.head 0).trans rfl
  have q4_1 := (box_cell BK4.out CH.out.head 1).trans rfl
  have q4_2 := (box_cell BK4.out CH.out.head 2).trans rfl
  have q4_3 := (box_cell BK4.out CH.out.head 3).trans rfl
  cases hfh : few4 l0_0 l0_1 l0_3
  · skip
    go_wp2_with (first | (go_at_call 8; (with_reducible refine (few04_L (VG.out.below CH.out.tail.head)).mono ?_); rintro e wx ⟨rfl, hb⟩; replace CH := Lib.hid (CH.out.step hb); clear hb; have q4_0 := (box_cell BK4.out CH.out.head 0).trans rfl; have q4_1 := (box_cell BK4.out CH.out.head 1).trans rfl; have q4_2 := (box_cell BK4.out CH.out.head 2).trans rfl; have q4_3 := (box_cell BK4.out CH.out.head 3).trans rfl) | (go_at_call 10; (with_reducible refine awake04_L.mono ?_); rintro e wx ⟨rfl, hb⟩; replace CH := Lib.hid (CH.out.step hb); clear hb))
    go_ret
    exact ⟨rfl, CH.out.tail.head⟩
  have HL := Lib.hid (show l0_0.length ≤ 1000000 ∧ l0_1.length ≤ 1000000 ∧ l0_3.length ≤ 1000000 by have := few4_len hfh; omega)
  cases hfit : gfitB l0_0 l0_1 a0_2 l0_3
  · skip
    go_wp2_with (first | (go_at_call 8; (with_reducible refine (few04_L (VG.out.below CH.out.tail.head)).mono ?_); rintro e wx ⟨rfl, hb⟩; replace CH := Lib.hid (CH.out.step hb); clear hb; have q4_0 := (box_cell BK4.out CH.out.head 0).trans rfl; have q4_1 := (box_cell BK4.out CH.out.head 1).trans rfl; have q4_2 := (box_cell BK4.out CH.out.head 2).trans rfl; have q4_3 := (box_cell BK4.out CH.out.head 3).trans rfl) | (go_at_call 9; (with_reducible refine (rFit04_L (VG.out.below CH.out.tail.head) HL.out WF.out.1 WF.out.2 WB.out.1 WB.out.2 WP.out).mono ?_); rintro e wx ⟨rfl, hb⟩; replace CH := Lib.hid (CH.out.step hb); clear hb; have q4_0 := (box_cell BK4.out CH.out.head 0).trans rfl; have q4_1 := (box_cell BK4.out CH.out.head 1).trans rfl; have q4_2 := (box_cell BK4.out CH.out.head 2).trans rfl; have q4_3 := (box_cell BK4.out CH.out.head 3).trans rfl) | (go_at_call 10; (with_reducible refine awake04_L.mono ?_); rintro e wx ⟨rfl, hb⟩; replace CH := Lib.hid (CH.out.step hb); clear hb))
    go_ret
    exact ⟨rfl, CH.out.tail.head⟩
  have HF := Lib.hid ((gfitB_iff WF.out.1 WF.out.2 WB.out.1 WB.out.2 WP.out).1 hfit)
  go_upto_region 3 with (first | (go_at_call 8; (with_reducible refine (few04_L (VG.out.below CH.out.tail.head)).mono ?_); rintro e wx ⟨rfl, hb⟩; replace CH := Lib.hid (CH.out.step hb); clear hb; have q4_0 := (box_cell BK4.out CH.out.head 0).trans rfl; have q4_1 := (box_cell BK4.out CH.out.head 1).trans rfl; have q4_2 := (box_cell BK4.out CH.out.head 2).trans rfl; have q4_3 := (box_cell BK4.out CH.out.head 3).trans rfl) | (go_at_call 9; (with_reducible refine (rFit04_L (VG.out.below CH.out.tail.head) HL.out WF.out.1 WF.out.2 WB.out.1 WB.out.2 WP.out).mono ?_); rintro e wx ⟨rfl, hb⟩; replace CH := Lib.hid (CH.out.step hb); clear hb; have q4_0 := (box_cell BK4.out CH.out.head 0).trans rfl; have q4_1 := (box_cell BK4.out CH.out.head 1).trans rfl; have q4_2 := (box_cell BK4.out CH.out.head 2).trans rfl; have q4_3 := (box_cell BK4.out CH.out.head 3).trans rfl))
  obtain ⟨rm1, rm2, rm3, rm4, erm⟩ : ∃ x y z u, mapG l0_0 l0_1 a0_2 l0_3 a1 a2 a3 = (x, y, z, u) := ⟨_, _, _, _, rfl⟩
  have Fm := Lib.hid (show FitG rm1 rm2 a0_2 rm3 by have := HF.out.map (a := a1) (n := a2) (q := a3) X1.out.1 X2.out.1; rw [erm] at this; exact this)
  have Em := Lib.hid erm
  clear erm
  obtain ⟨ru1, ru2, ru3, ru4, eru⟩ : ∃ x y z u, unmapG l0_0 l0_1 a0_2 l0_3 a1 a2 = (x, y, z, u) := ⟨_, _, _, _, rfl⟩
  have Fu := Lib.hid (show FitG ru1 ru2 a0_2 ru3 by have := HF.out.unmap (a := a1) (n := a2) X1.out.1 X2.out.1; rw [eru] at this; exact this)
  have Eu := Lib.hid eru
  clear eru
  obtain ⟨rp1, rp2, rp3, rp4, erp⟩ : ∃ x y z u, protG l0_0 l0_1 a0_2 l0_3 a1 a2 a3 = (x, y, z, u) := ⟨_, _, _, _, rfl⟩
  have Fp := Lib.hid (show FitG rp1 rp2 a0_2 rp3 by have := HF.out.protect (a := a1) (n := a2) (q := a3) X2.out.1; rw [erp] at this; exact this)
  have Ep := Lib.hid erp
  clear erp
  have q4_0 := (box_cell BK4.out CH.out.head 0).trans rfl
  have q4_1 := (box_cell BK4.out CH.out.head 1).trans rfl
  have q4_2 := (box_cell BK4.out CH.out.head 2).trans rfl
  have q4_3 := (box_cell BK4.out CH.out.head 3).trans rfl
  go_upto_region 4 with (go_at_call 12; (with_reducible refine (gMapG_L (VG.out.below CH.out.tail.head) HF.out X1.out.1 X1.out.2 X2.out.1 X2.out.2 X3.out.1 X3.out.2 Em.out).mono ?_); rintro e wxm ⟨Am, cm, Bm, dm, Cm, em, rfl, hv, hb⟩)
  replace CH := Lib.hid ((CH.out.step hb).alloc (.cells #[.slice Am rm1.length cm, .slice Bm rm2.length dm, .int .u64 a0_2, .slice Cm rm3.length em] 29))
  have BK9 := Lib.hid (blk_new wxm (.cells #[.slice Am rm1.length cm, .slice Bm rm2.length dm, .int .u64 a0_2, .slice Cm rm3.length em] 29))
  have Vm := Lib.hid (GuestV.below hv (below_new wxm (.cells #[.slice Am rm1.length cm, .slice Bm rm2.length dm, .int .u64 a0_2, .slice Cm rm3.length em] 29)))
  generalize wxm.alloc (.cells #[.slice Am rm1.length cm, .slice Bm rm2.length dm, .int .u64 a0_2, .slice Cm rm3.length em] 29) = y2 at CH BK9 Vm ⊢
  replace CH := Lib.hid CH.out.push
  clear hv hb
  have q4_0 := (box_cell BK4.out CH.out.tail.head 0).trans rfl
  have q4_1 := (box_cell BK4.out CH.out.tail.head 1).trans rfl
  have q4_2 := (box_cell BK4.out CH.out.tail.head 2).trans rfl
  have q4_3 := (box_cell BK4.out CH.out.tail.head 3).trans rfl
  go_upto_region 5 with (go_at_call 17; (with_reducible refine (rMapG_L (VG.out.below CH.out.tail.tail.head) HF.out X1.out.1 X1.out.2 X2.out.1 X2.out.2 Em.out).mono ?_); rintro e wxm' ⟨Am', cm', Bm', dm', Cm', em', rfl, hv, hb⟩)
  replace CH := Lib.hid ((CH.out.step hb).alloc (.cells #[.slice Am' rm1.length cm', .slice Bm' rm2.length dm', .int .u64 a0_2, .slice Cm' rm3.length em'] 29))
  have BK11 := Lib.hid (blk_new wxm' (.cells #[.slice Am' rm1.length cm', .slice Bm' rm2.length dm', .int .u64 a0_2, .slice Cm' rm3.length em'] 29))
  have Vm' := Lib.hid (GuestV.below hv (below_new wxm' (.cells #[.slice Am' rm1.length cm', .slice Bm' rm2.length dm', .int .u64 a0_2, .slice Cm' rm3.length em'] 29)))
  generalize wxm'.alloc (.cells #[.slice Am' rm1.length cm', .slice Bm' rm2.length dm', .int .u64 a0_2, .slice Cm' rm3.length em'] 29) = y3 at CH BK11 Vm' ⊢
  replace CH := Lib.hid CH.out.push
  clear hv hb
  have q4_0 := (box_cell BK4.out CH.out.tail.tail.head 0).trans rfl
  have q4_1 := (box_cell BK4.out CH.out.tail.tail.head 1).trans rfl
  have q4_2 := (box_cell BK4.out CH.out.tail.tail.head 2).trans rfl
  have q4_3 := (box_cell BK4.out CH.out.tail.tail.head 3).trans rfl
  go_upto_region 6 with (go_at_call 11; (with_reducible refine (gUnmapG_L (VG.out.below CH.out.tail.tail.tail.head) HF.out X1.out.1 X1.out.2 X2.out.1 X2.out.2 Eu.out).mono ?_); rintro e wxu ⟨Au, cu, Bu, du, Cu, eu, rfl, hv, hb⟩)
  replace CH := Lib.hid ((CH.out.step hb).alloc (.cells #[.slice Au ru1.length cu, .slice Bu ru2.length du, .int .u64 a0_2, .slice Cu ru3.length eu] 29))
  have BK13 := Lib.hid (blk_new wxu (.cells #[.slice Au ru1.length cu, .slice Bu ru2.length du, .int .u64 a0_2, .slice Cu ru3.length eu] 29))
  have Vu := Lib.hid (GuestV.below hv (below_new wxu (.cells #[.slice Au ru1.length cu, .slice Bu ru2.length du, .int .u64 a0_2, .slice Cu ru3.length eu] 29)))
  generalize wxu.alloc (.cells #[.slice Au ru1.length cu, .slice Bu ru2.length du, .int .u64 a0_2, .slice Cu ru3.length eu] 29) = y4 at CH BK13 Vu ⊢
  replace CH := Lib.hid CH.out.push
  clear hv hb
  have q4_0 := (box_cell BK4.out CH.out.tail.tail.tail.head 0).trans rfl
  have q4_1 := (box_cell BK4.out CH.out.tail.tail.tail.head 1).trans rfl
  have q4_2 := (box_cell BK4.out CH.out.tail.tail.tail.head 2).trans rfl
  have q4_3 := (box_cell BK4.out CH.out.tail.tail.tail.head 3).trans rfl
  go_upto_region 7 with (go_at_call 18; (with_reducible refine (rUnmapG_L (VG.out.below CH.out.tail.tail.tail.tail.head) HF.out X1.out.1 X1.out.2 X2.out.1 X2.out.2 Eu.out).mono ?_); rintro e wxu' ⟨Au', cu', Bu', du', Cu', eu', rfl, hv, hb⟩)
  replace CH := Lib.hid ((CH.out.step hb).alloc (.cells #[.slice Au' ru1.length cu', .slice Bu' ru2.length du', .int .u64 a0_2, .slice Cu' ru3.length eu'] 29))
  have BK15 := Lib.hid (blk_new wxu' (.cells #[.slice Au' ru1.length cu', .slice Bu' ru2.length du', .int .u64 a0_2, .slice Cu' ru3.length eu'] 29))
  have Vu' := Lib.hid (GuestV.below hv (below_new wxu' (.cells #[.slice Au' ru1.length cu', .slice Bu' ru2.length du', .int .u64 a0_2, .slice Cu' ru3.length eu'] 29)))
  generalize wxu'.alloc (.cells #[.slice Au' ru1.length cu', .slice Bu' ru2.length du', .int .u64 a0_2, .slice Cu' ru3.length eu'] 29) = y5 at CH BK15 Vu' ⊢
  replace CH := Lib.hid CH.out.push
  clear hv hb
  have q4_0 := (box_cell BK4.out CH.out.tail.tail.tail.tail.head 0).trans rfl
  have q4_1 := (box_cell BK4.out CH.out.tail.tail.tail.tail.head 1).trans rfl
  have q4_2 := (box_cell BK4.out CH.out.tail.tail.tail.tail.head 2).trans rfl
  have q4_3 := (box_cell BK4.out CH.out.tail.tail.tail.tail.head 3).trans rfl
  go_upto_region 8 with (go_at_call 19; (with_reducible refine (gProtG_L (VG.out.below CH.out.tail.tail.tail.tail.tail.head) HF.out X1.out.1 X1.out.2 X2.out.1 X2.out.2 X3.out.1 X3.out.2 Ep.out).mono ?_); rintro e wxp ⟨Ap, cp, Bp, dp, Cp, ep, rfl, hv, hb⟩)
  replace CH := Lib.hid ((CH.out.step hb).alloc (.cells #[.slice Ap rp1.length cp, .slice Bp rp2.length dp, .int .u64 a0_2, .slice Cp rp3.length ep] 29))
  have BK17 := Lib.hid (blk_new wxp (.cells #[.slice Ap rp1.length cp, .slice Bp rp2.length dp, .int .u64 a0_2, .slice Cp rp3.length ep] 29))
  have Vp := Lib.hid (GuestV.below hv (below_new wxp (.cells #[.slice Ap rp1.length cp, .slice Bp rp2.length dp, .int .u64 a0_2, .slice Cp rp3.length ep] 29)))
  generalize wxp.alloc (.cells #[.slice Ap rp1.length cp, .slice Bp rp2.length dp, .int .u64 a0_2, .slice Cp rp3.length ep] 29) = y6 at CH BK17 Vp ⊢
  replace CH := Lib.hid CH.out.push
  clear hv hb
  have q4_0 := (box_cell BK4.out CH.out.tail.tail.tail.tail.tail.head 0).trans rfl
  have q4_1 := (box_cell BK4.out CH.out.tail.tail.tail.tail.tail.head 1).trans rfl
  have q4_2 := (box_cell BK4.out CH.out.tail.tail.tail.tail.tail.head 2).trans rfl
  have q4_3 := (box_cell BK4.out CH.out.tail.tail.tail.tail.tail.head 3).trans rfl
  go_upto_region 9 with (go_at_call 20; (with_reducible refine (rProtG_L (VG.out.below CH.out.tail.tail.tail.tail.tail.tail.head) HF.out X1.out.1 X1.out.2 X2.out.1 X2.out.2 Ep.out).mono ?_); rintro e wxp' ⟨Ap', cp', Bp', dp', Cp', ep', rfl, hv, hb⟩)
  replace CH := Lib.hid ((CH.out.step hb).alloc (.cells #[.slice Ap' rp1.length cp', .slice Bp' rp2.length dp', .int .u64 a0_2, .slice Cp' rp3.length ep'] 29))
  have BK19 := Lib.hid (blk_new wxp' (.cells #[.slice Ap' rp1.length cp', .slice Bp' rp2.length dp', .int .u64 a0_2, .slice Cp' rp3.length ep'] 29))
  have Vp' := Lib.hid (GuestV.below hv (below_new wxp' (.cells #[.slice Ap' rp1.length cp', .slice Bp' rp2.length dp', .int .u64 a0_2, .slice Cp' rp3.length ep'] 29)))
  generalize wxp'.alloc (.cells #[.slice Ap' rp1.length cp', .slice Bp' rp2.length dp', .int .u64 a0_2, .slice Cp' rp3.length ep'] 29) = y7 at CH BK19 Vp' ⊢
  replace CH := Lib.hid CH.out.push
  clear hv hb
  have q9_0 := (box_cell BK9.out CH.out.tail.tail.tail.tail.tail.head 0).trans rfl
  have q9_1 := (box_cell BK9.out CH.out.tail.tail.tail.tail.tail.head 1).trans rfl
  have q9_2 := (box_cell BK9.out CH.out.tail.tail.tail.tail.tail.head 2).trans rfl
  have q9_3 := (box_cell BK9.out CH.out.tail.tail.tail.tail.tail.head 3).trans rfl
  have q11_0 := (box_cell BK11.out CH.out.tail.tail.tail.tail.head 0).trans rfl
  have q11_1 := (box_cell BK11.out CH.out.tail.tail.tail.tail.head 1).trans rfl
  have q11_2 := (box_cell BK11.out CH.out.tail.tail.tail.tail.head 2).trans rfl
  have q11_3 := (box_cell BK11.out CH.out.tail.tail.tail.tail.head 3).trans rfl
  have q13_0 := (box_cell BK13.out CH.out.tail.tail.tail.head 0).trans rfl
  have q13_1 := (box_cell BK13.out CH.out.tail.tail.tail.head 1).trans rfl
  have q13_2 := (box_cell BK13.out CH.out.tail.tail.tail.head 2).trans rfl
  have q13_3 := (box_cell BK13.out CH.out.tail.tail.tail.head 3).trans rfl
  have q15_0 := (box_cell BK15.out CH.out.tail.tail.head 0).trans rfl
  have q15_1 := (box_cell BK15.out CH.out.tail.tail.head 1).trans rfl
  have q15_2 := (box_cell BK15.out CH.out.tail.tail.head 2).trans rfl
  have q15_3 := (box_cell BK15.out CH.out.tail.tail.head 3).trans rfl
  have q17_0 := (box_cell BK17.out CH.out.tail.head 0).trans rfl
  have q17_1 := (box_cell BK17.out CH.out.tail.head 1).trans rfl
  have q17_2 := (box_cell BK17.out CH.out.tail.head 2).trans rfl
  have q17_3 := (box_cell BK17.out CH.out.tail.head 3).trans rfl
  have q19_0 := (box_cell BK19.out CH.out.head 0).trans rfl
  have q19_1 := (box_cell BK19.out CH.out.head 1).trans rfl
  have q19_2 := (box_cell BK19.out CH.out.head 2).trans rfl
  have q19_3 := (box_cell BK19.out CH.out.head 3).trans rfl
  go_wp2_with (first | (go_at_call 13; (with_reducible refine (rSame04T_L (Vm.out.below CH.out.tail.tail.tail.tail.tail.head) (Vm'.out.below CH.out.tail.tail.tail.tail.head) Fm.out.len).mono ?_); rintro e wx ⟨rfl, hb⟩; replace CH := Lib.hid (CH.out.step hb); clear hb; have q9_0 := (box_cell BK9.out CH.out.tail.tail.tail.tail.tail.head 0).trans rfl; have q9_1 := (box_cell BK9.out CH.out.tail.tail.tail.tail.tail.head 1).trans rfl; have q9_2 := (box_cell BK9.out CH.out.tail.tail.tail.tail.tail.head 2).trans rfl; have q9_3 := (box_cell BK9.out CH.out.tail.tail.tail.tail.tail.head 3).trans rfl; have q11_0 := (box_cell BK11.out CH.out.tail.tail.tail.tail.head 0).trans rfl; have q11_1 := (box_cell BK11.out CH.out.tail.tail.tail.tail.head 1).trans rfl; have q11_2 := (box_cell BK11.out CH.out.tail.tail.tail.tail.head 2).trans rfl; have q11_3 := (box_cell BK11.out CH.out.tail.tail.tail.tail.head 3).trans rfl; have q13_0 := (box_cell BK13.out CH.out.tail.tail.tail.head 0).trans rfl; have q13_1 := (box_cell BK13.out CH.out.tail.tail.tail.head 1).trans rfl; have q13_2 := (box_cell BK13.out CH.out.tail.tail.tail.head 2).trans rfl; have q13_3 := (box_cell BK13.out CH.out.tail.tail.tail.head 3).trans rfl; have q15_0 := (box_cell BK15.out CH.out.tail.tail.head 0).trans rfl; have q15_1 := (box_cell BK15.out CH.out.tail.tail.head 1).trans rfl; have q15_2 := (box_cell BK15.out CH.out.tail.tail.head 2).trans rfl; have q15_3 := (box_cell BK15.out CH.out.tail.tail.head 3).trans rfl; have q17_0 := (box_cell BK17.out CH.out.tail.head 0).trans rfl; have q17_1 := (box_cell BK17.out CH.out.tail.head 1).trans rfl; have q17_2 := (box_cell BK17.out CH.out.tail.head 2).trans rfl; have q17_3 := (box_cell BK17.out CH.out.tail.head 3).trans rfl; have q19_0 := (box_cell BK19.out CH.out.head 0).trans rfl; have q19_1 := (box_cell BK19.out CH.out.head 1).trans rfl; have q19_2 := (box_cell BK19.out CH.out.head 2).trans rfl; have q19_3 := (box_cell BK19.out CH.out.head 3).trans rfl) | (go_at_call 13; (with_reducible refine (rSame04T_L (Vu.out.below CH.out.tail.tail.tail.head) (Vu'.out.below CH.out.tail.tail.head) Fu.out.len).mono ?_); rintro e wx ⟨rfl, hb⟩; replace CH := Lib.hid (CH.out.step hb); clear hb; have q9_0 := (box_cell BK9.out CH.out.tail.tail.tail.tail.tail.head 0).trans rfl; have q9_1 := (box_cell BK9.out CH.out.tail.tail.tail.tail.tail.head 1).trans rfl; have q9_2 := (box_cell BK9.out CH.out.tail.tail.tail.tail.tail.head 2).trans rfl; have q9_3 := (box_cell BK9.out CH.out.tail.tail.tail.tail.tail.head 3).trans rfl; have q11_0 := (box_cell BK11.out CH.out.tail.tail.tail.tail.head 0).trans rfl; have q11_1 := (box_cell BK11.out CH.out.tail.tail.tail.tail.head 1).trans rfl; have q11_2 := (box_cell BK11.out CH.out.tail.tail.tail.tail.head 2).trans rfl; have q11_3 := (box_cell BK11.out CH.out.tail.tail.tail.tail.head 3).trans rfl; have q13_0 := (box_cell BK13.out CH.out.tail.tail.tail.head 0).trans rfl; have q13_1 := (box_cell BK13.out CH.out.tail.tail.tail.head 1).trans rfl; have q13_2 := (box_cell BK13.out CH.out.tail.tail.tail.head 2).trans rfl; have q13_3 := (box_cell BK13.out CH.out.tail.tail.tail.head 3).trans rfl; have q15_0 := (box_cell BK15.out CH.out.tail.tail.head 0).trans rfl; have q15_1 := (box_cell BK15.out CH.out.tail.tail.head 1).trans rfl; have q15_2 := (box_cell BK15.out CH.out.tail.tail.head 2).trans rfl; have q15_3 := (box_cell BK15.out CH.out.tail.tail.head 3).trans rfl; have q17_0 := (box_cell BK17.out CH.out.tail.head 0).trans rfl; have q17_1 := (box_cell BK17.out CH.out.tail.head 1).trans rfl; have q17_2 := (box_cell BK17.out CH.out.tail.head 2).trans rfl; have q17_3 := (box_cell BK17.out CH.out.tail.head 3).trans rfl; have q19_0 := (box_cell BK19.out CH.out.head 0).trans rfl; have q19_1 := (box_cell BK19.out CH.out.head 1).trans rfl; have q19_2 := (box_cell BK19.out CH.out.head 2).trans rfl; have q19_3 := (box_cell BK19.out CH.out.head 3).trans rfl) | (go_at_call 13; (with_reducible refine (rSame04T_L (Vp.out.below CH.out.tail.head) (Vp'.out.below CH.out.head) Fp.out.len).mono ?_); rintro e wx ⟨rfl, hb⟩; replace CH := Lib.hid (CH.out.step hb); clear hb; have q9_0 := (box_cell BK9.out CH.out.tail.tail.tail.tail.tail.head 0).trans rfl; have q9_1 := (box_cell BK9.out CH.out.tail.tail.tail.tail.tail.head 1).trans rfl; have q9_2 := (box_cell BK9.out CH.out.tail.tail.tail.tail.tail.head 2).trans rfl; have q9_3 := (box_cell BK9.out CH.out.tail.tail.tail.tail.tail.head 3).trans rfl; have q11_0 := (box_cell BK11.out CH.out.tail.tail.tail.tail.head 0).trans rfl; have q11_1 := (box_cell BK11.out CH.out.tail.tail.tail.tail.head 1).trans rfl; have q11_2 := (box_cell BK11.out CH.out.tail.tail.tail.tail.head 2).trans rfl; have q11_3 := (box_cell BK11.out CH.out.tail.tail.tail.tail.head 3).trans rfl; have q13_0 := (box_cell BK13.out CH.out.tail.tail.tail.head 0).trans rfl; have q13_1 := (box_cell BK13.out CH.out.tail.tail.tail.head 1).trans rfl; have q13_2 := (box_cell BK13.out CH.out.tail.tail.tail.head 2).trans rfl; have q13_3 := (box_cell BK13.out CH.out.tail.tail.tail.head 3).trans rfl; have q15_0 := (box_cell BK15.out CH.out.tail.tail.head 0).trans rfl; have q15_1 := (box_cell BK15.out CH.out.tail.tail.head 1).trans rfl; have q15_2 := (box_cell BK15.out CH.out.tail.tail.head 2).trans rfl; have q15_3 := (box_cell BK15.out CH.out.tail.tail.head 3).trans rfl; have q17_0 := (box_cell BK17.out CH.out.tail.head 0).trans rfl; have q17_1 := (box_cell BK17.out CH.out.tail.head 1).trans rfl; have q17_2 := (box_cell BK17.out CH.out.tail.head 2).trans rfl; have q17_3 := (box_cell BK17.out CH.out.tail.head 3).trans rfl; have q19_0 := (box_cell BK19.out CH.out.head 0).trans rfl; have q19_1 := (box_cell BK19.out CH.out.head 1).trans rfl; have q19_2 := (box_cell BK19.out CH.out.head 2).trans rfl; have q19_3 := (box_cell BK19.out CH.out.head 3).trans rfl) | (go_at_call 9; (with_reducible refine (rFit04T_L (Vm.out.below CH.out.tail.tail.tail.tail.tail.head) Fm.out).mono ?_); rintro e wx ⟨rfl, hb⟩; replace CH := Lib.hid (CH.out.step hb); clear hb; have q9_0 := (box_cell BK9.out CH.out.tail.tail.tail.tail.tail.head 0).trans rfl; have q9_1 := (box_cell BK9.out CH.out.tail.tail.tail.tail.tail.head 1).trans rfl; have q9_2 := (box_cell BK9.out CH.out.tail.tail.tail.tail.tail.head 2).trans rfl; have q9_3 := (box_cell BK9.out CH.out.tail.tail.tail.tail.tail.head 3).trans rfl; have q11_0 := (box_cell BK11.out CH.out.tail.tail.tail.tail.head 0).trans rfl; have q11_1 := (box_cell BK11.out CH.out.tail.tail.tail.tail.head 1).trans rfl; have q11_2 := (box_cell BK11.out CH.out.tail.tail.tail.tail.head 2).trans rfl; have q11_3 := (box_cell BK11.out CH.out.tail.tail.tail.tail.head 3).trans rfl; have q13_0 := (box_cell BK13.out CH.out.tail.tail.tail.head 0).trans rfl; have q13_1 := (box_cell BK13.out CH.out.tail.tail.tail.head 1).trans rfl; have q13_2 := (box_cell BK13.out CH.out.tail.tail.tail.head 2).trans rfl; have q13_3 := (box_cell BK13.out CH.out.tail.tail.tail.head 3).trans rfl; have q15_0 := (box_cell BK15.out CH.out.tail.tail.head 0).trans rfl; have q15_1 := (box_cell BK15.out CH.out.tail.tail.head 1).trans rfl; have q15_2 := (box_cell BK15.out CH.out.tail.tail.head 2).trans rfl; have q15_3 := (box_cell BK15.out CH.out.tail.tail.head 3).trans rfl; have q17_0 := (box_cell BK17.out CH.out.tail.head 0).trans rfl; have q17_1 := (box_cell BK17.out CH.out.tail.head 1).trans rfl; have q17_2 := (box_cell BK17.out CH.out.tail.head 2).trans rfl; have q17_3 := (box_cell BK17.out CH.out.tail.head 3).trans rfl; have q19_0 := (box_cell BK19.out CH.out.head 0).trans rfl; have q19_1 := (box_cell BK19.out CH.out.head 1).trans rfl; have q19_2 := (box_cell BK19.out CH.out.head 2).trans rfl; have q19_3 := (box_cell BK19.out CH.out.head 3).trans rfl) | (go_at_call 9; (with_reducible refine (rFit04T_L (Vu.out.below CH.out.tail.tail.tail.head) Fu.out).mono ?_); rintro e wx ⟨rfl, hb⟩; replace CH := Lib.hid (CH.out.step hb); clear hb; have q9_0 := (box_cell BK9.out CH.out.tail.tail.tail.tail.tail.head 0).trans rfl; have q9_1 := (box_cell BK9.out CH.out.tail.tail.tail.tail.tail.head 1).trans rfl; have q9_2 := (box_cell BK9.out CH.out.tail.tail.tail.tail.tail.head 2).trans rfl; have q9_3 := (box_cell BK9.out CH.out.tail.tail.tail.tail.tail.head 3).trans rfl; have q11_0 := (box_cell BK11.out CH.out.tail.tail.tail.tail.head 0).trans rfl; have q11_1 := (box_cell BK11.out CH.out.tail.tail.tail.tail.head 1).trans rfl; have q11_2 := (box_cell BK11.out CH.out.tail.tail.tail.tail.head 2).trans rfl; have q11_3 := (box_cell BK11.out CH.out.tail.tail.tail.tail.head 3).trans rfl; have q13_0 := (box_cell BK13.out CH.out.tail.tail.tail.head 0).trans rfl; have q13_1 := (box_cell BK13.out CH.out.tail.tail.tail.head 1).trans rfl; have q13_2 := (box_cell BK13.out CH.out.tail.tail.tail.head 2).trans rfl; have q13_3 := (box_cell BK13.out CH.out.tail.tail.tail.head 3).trans rfl; have q15_0 := (box_cell BK15.out CH.out.tail.tail.head 0).trans rfl; have q15_1 := (box_cell BK15.out CH.out.tail.tail.head 1).trans rfl; have q15_2 := (box_cell BK15.out CH.out.tail.tail.head 2).trans rfl; have q15_3 := (box_cell BK15.out CH.out.tail.tail.head 3).trans rfl; have q17_0 := (box_cell BK17.out CH.out.tail.head 0).trans rfl; have q17_1 := (box_cell BK17.out CH.out.tail.head 1).trans rfl; have q17_2 := (box_cell BK17.out CH.out.tail.head 2).trans rfl; have q17_3 := (box_cell BK17.out CH.out.tail.head 3).trans rfl; have q19_0 := (box_cell BK19.out CH.out.head 0).trans rfl; have q19_1 := (box_cell BK19.out CH.out.head 1).trans rfl; have q19_2 := (box_cell BK19.out CH.out.head 2).trans rfl; have q19_3 := (box_cell BK19.out CH.out.head 3).trans rfl) | (go_at_call 9; (with_reducible refine (rFit04T_L (Vp.out.below CH.out.tail.head) Fp.out).mono ?_); rintro e wx ⟨rfl, hb⟩; replace CH := Lib.hid (CH.out.step hb); clear hb; have q9_0 := (box_cell BK9.out CH.out.tail.tail.tail.tail.tail.head 0).trans rfl; have q9_1 := (box_cell BK9.out CH.out.tail.tail.tail.tail.tail.head 1).trans rfl; have q9_2 := (box_cell BK9.out CH.out.tail.tail.tail.tail.tail.head 2).trans rfl; have q9_3 := (box_cell BK9.out CH.out.tail.tail.tail.tail.tail.head 3).trans rfl; have q11_0 := (box_cell BK11.out CH.out.tail.tail.tail.tail.head 0).trans rfl; have q11_1 := (box_cell BK11.out CH.out.tail.tail.tail.tail.head 1).trans rfl; have q11_2 := (box_cell BK11.out CH.out.tail.tail.tail.tail.head 2).trans rfl; have q11_3 := (box_cell BK11.out CH.out.tail.tail.tail.tail.head 3).trans rfl; have q13_0 := (box_cell BK13.out CH.out.tail.tail.tail.head 0).trans rfl; have q13_1 := (box_cell BK13.out CH.out.tail.tail.tail.head 1).trans rfl; have q13_2 := (box_cell BK13.out CH.out.tail.tail.tail.head 2).trans rfl; have q13_3 := (box_cell BK13.out CH.out.tail.tail.tail.head 3).trans rfl; have q15_0 := (box_cell BK15.out CH.out.tail.tail.head 0).trans rfl; have q15_1 := (box_cell BK15.out CH.out.tail.tail.head 1).trans rfl; have q15_2 := (box_cell BK15.out CH.out.tail.tail.head 2).trans rfl; have q15_3 := (box_cell BK15.out CH.out.tail.tail.head 3).trans rfl; have q17_0 := (box_cell BK17.out CH.out.tail.head 0).trans rfl; have q17_1 := (box_cell BK17.out CH.out.tail.head 1).trans rfl; have q17_2 := (box_cell BK17.out CH.out.tail.head 2).trans rfl; have q17_3 := (box_cell BK17.out CH.out.tail.head 3).trans rfl; have q19_0 := (box_cell BK19.out CH.out.head 0).trans rfl; have q19_1 := (box_cell BK19.out CH.out.head 1).trans rfl; have q19_2 := (box_cell BK19.out CH.out.head 2).trans rfl; have q19_3 := (box_cell BK19.out CH.out.head 3).trans rfl) | (go_at_call 10; (with_reducible refine awake04_L.mono ?_); rintro e wx ⟨rfl, hb⟩; replace CH := Lib.hid (CH.out.step hb); clear hb))
  go_ret
  exact ⟨rfl, CH.out.tail.tail.tail.tail.tail.tail.tail.head⟩
end Go.Proofs.Ytjhfglpgpicmiaa.F
end
