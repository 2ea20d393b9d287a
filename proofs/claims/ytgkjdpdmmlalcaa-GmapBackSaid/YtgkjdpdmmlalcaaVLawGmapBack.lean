import Derived.Test.YtgkjdpdmmlalcaaVZF0
import Derived.Test.YtgkjdpdmmlalcaaVA4HHost3
import Derived.Test.YtgkjdpdmmlalcaaVA11
import Derived.Test.YtgkjdpdmmlalcaaVA13
import Derived.Test.YtgkjdpdmmlalcaaVA14HGuest4
import Derived.Test.YtgkjdpdmmlalcaaVA15
import Derived.Test.YtgkjdpdmmlalcaaVA16HGuest7
import Derived.Test.YtgkjdpdmmlalcaaVA19
import Derived.Test.YtgkjdpdmmlalcaaVA30FFerrylaw06GmapBack
import Derived.Test.YtgkjdpdmmlalcaaVA31
import Derived.Test.YtgkjdpdmmlalcaaRows
/- The law GmapBack holds of the given program: for every input it returns true and leaves its arguments as they were. No condition. -/
namespace Go.Proofs.Ytgkjdpdmmlalcaa.gmapBack
open Go.ChangeShapes Go.WideShapes Go.ChangeAt Go.RowKit
open Go.ChangeMaps (open_string shut_string)
open Go.Proofs.Ytgkjdpdmmlalcaa.F Go.Proofs.YtgkjdpdmmlalcaaW.PrintWords
theorem own : ownKnob Try.prog.godebug = none := by kernel_rfl
theorem laidOut : laidOutB Try.prog = true := by kernel_rfl
set_option maxRecDepth 100000 in
set_option maxHeartbeats 4000000 in
theorem lifted (os : Os) (started : os.Started) (H : Type) (enc : TypeId × Value → H) :
    ReturnsInHanded {} Try.checked os 8 .any (Rows.gmapBackSpec.pre6 enc Try.prog Try.f8 Rows.gmapBackRow.domain false) (Rows.gmapBackSpec.post enc Try.prog Try.f8 false true false false) := by
  refine returnsInHanded_of_change_sized (C := Try.checked) own started (by kernel_rfl) Try.func8
    (ChangeSpec.witness6 (enc := enc) (C := Try.checked) false ⟨#[], #[.agg #[.slice none 0 0, .slice none 0 0, .int .u64 0, .slice none 0 0, .int .u32 0, .int .u32 0], .int .u32 0, .int .u32 0, .int .i64 0], []⟩ 16 (by kernel_rfl) (by kernel_rfl) (by kernel_rfl) (by kernel_rfl)) ?_
  intro W base args ds gs before hval0 hW hcnd hsz0 _
  have hval : ∀ (j : Nat) t v, Try.f8.params[j]? = some t → args[j]? = some v → Value.okWide Try.prog W .any base t v := hval0
  have hW' := hW
  obtain ⟨p, q, hA0, hV, rfl, hfz, hnd⟩ := hW
  have hA : DataW.TrodAll enc Try.prog W 0 (fun _ => true) true Try.f8.params.toList args.toList ds p := hA0
  rw [Try.params8] at hA hval
  obtain ⟨v0, vs0, d0, ds0, p0, q0, hargs, rfl, rfl, h0, r0⟩ := trodAll_cons hA
  obtain ⟨v1, vs1, d1, ds1, p1, q1, rfl, rfl, rfl, h1, r1⟩ := trodAll_cons r0
  obtain ⟨v2, vs2, d2, ds2, p2, q2, rfl, rfl, rfl, h2, r2⟩ := trodAll_cons r1
  obtain ⟨v3, vs3, d3, ds3, p3, q3, rfl, rfl, rfl, h3, r3⟩ := trodAll_cons r2
  obtain ⟨rfl, rfl, rfl⟩ := trodAll_nil r3
  obtain rfl : args = #[v0, v1, v2, v3] := by cases args; simp_all
  obtain ⟨rfl, rfl⟩ := trodVars_none hV
  have k0 := h0
  have lt0 : ∀ x ∈ p0, x.block < W.heap.size := by obtain ⟨m, hm⟩ := k0; exact DataW.trod_lt m _ _ _ hm
  obtain ⟨cs0, x0, rfl, hK0, hw0⟩ := Opens.arg_struct Try.underlying63 (hval 0 63 v0 rfl rfl) (Opens.opens_struct (by kernel_rfl) Try.underlying63 (Opens.opens_cons rfl (Opens.opens_struct (by kernel_rfl) Try.underlying29 (Opens.opens_cons rfl (Opens.opens_struct (by kernel_rfl) Try.underlying25 (Opens.opens_cons rfl (Opens.opens_slice (by kernel_rfl) (by kernel_rfl) opens_S83) (Opens.opens_one rfl (Opens.opens_slice (by kernel_rfl) (by kernel_rfl) opens_S88)))) (Opens.opens_cons rfl (Opens.opens_u64 (by kernel_rfl) (by kernel_rfl)) (Opens.opens_one rfl (Opens.opens_slice (by kernel_rfl) (by kernel_rfl) opens_S41))))) (Opens.opens_cons rfl (Opens.opens_u32 (by kernel_rfl) (by kernel_rfl)) (Opens.opens_one rfl (Opens.opens_u32 (by kernel_rfl) (by kernel_rfl)))))) h0
  obtain ⟨⟨⟨l0_0, l0_1⟩, a0_2, l0_3⟩, a0_4, a0_5⟩ := x0
  obtain ⟨_, _, rfl, ⟨_, _, rfl, ⟨_, _, rfl, ⟨A0_0, c0_0, rfl, hl0_0, hC0_0⟩, ⟨A0_1, c0_1, rfl, hl0_1, hC0_1⟩⟩, ⟨_, _, rfl, rfl, ⟨A0_3, c0_3, rfl, hl0_3, hC0_3⟩⟩⟩, ⟨_, _, rfl, rfl, rfl⟩⟩ := hK0
  obtain ⟨⟨⟨wl0_0, wl0_1⟩, wa0_2, wl0_3⟩, wa0_4, wa0_5⟩ := hw0
  have k1 := h1
  have lt1 : ∀ x ∈ p1, x.block < W.heap.size := by obtain ⟨m, hm⟩ := k1; exact DataW.trod_lt m _ _ _ hm
  obtain ⟨a1, rfl, rfl, rfl, w1⟩ := open_int Try.underlying30 (hval 1 30 v1 rfl rfl) h1
  have k2 := h2
  have lt2 : ∀ x ∈ p2, x.block < W.heap.size := by obtain ⟨m, hm⟩ := k2; exact DataW.trod_lt m _ _ _ hm
  obtain ⟨a2, rfl, rfl, rfl, w2⟩ := open_int Try.underlying30 (hval 2 30 v2 rfl rfl) h2
  have k3 := h3
  have lt3 : ∀ x ∈ p3, x.block < W.heap.size := by obtain ⟨m, hm⟩ := k3; exact DataW.trod_lt m _ _ _ hm
  obtain ⟨a3, rfl, rfl, rfl, w3⟩ := open_int Try.underlying3 (hval 3 3 v3 rfl rfl) h3
  clear hA0 hval0 hsz0
  obtain ⟨k, h⟩ := GmapBack_pure l0_0 l0_1 a0_2 l0_3 a0_4 a0_5 a1 a2 a3 wl0_0 wl0_1 wa0_2 wl0_3 wa0_4 wa0_5 (Opens.wf_u32 w1) (Opens.wf_u32 w2) (Opens.wf_i64 w3)
  have hcall := ferrylaw06_GmapBack.calls k A0_0 c0_0 l0_0 A0_1 c0_1 l0_1 a0_2 A0_3 c0_3 l0_3 a0_4 a0_5 a1 a2 a3 true W hC0_0 hl0_0 hC0_1 hl0_1 hC0_3 hl0_3 h
  refine (hcall.mono ?_ : Calls Try.prog 8 #[.agg #[.slice A0_0 l0_0.length c0_0, .slice A0_1 l0_1.length c0_1, .int .u64 a0_2, .slice A0_3 l0_3.length c0_3, .int .u32 a0_4, .int .u32 a0_5], .int .u32 a1, .int .u32 a2, .int .i64 a3] W _)
  rintro e W' ⟨rfl, bel0⟩
  have bel : Below W.heap.size W W' := bel0
  exact ⟨_, rfl, _, _, _, [], _, [], hW', trodAll_mk1 (shut_bool Try.underlying4 _), (trodAll_cons_mk (Below.trod laidOut (by kernel_rfl) (of_decide_eq_true (by kernel_rfl)) k0 bel lt0) (trodAll_cons_mk (Below.trod laidOut (by kernel_rfl) (of_decide_eq_true (by kernel_rfl)) k1 bel lt1) (trodAll_cons_mk (Below.trod laidOut (by kernel_rfl) (of_decide_eq_true (by kernel_rfl)) k2 bel lt2) (trodAll_cons_mk (Below.trod laidOut (by kernel_rfl) (of_decide_eq_true (by kernel_rfl)) k3 bel lt3) trodAll_mk0)))), rfl, bel.frame _, fun h => by cases h⟩
theorem over : Rows.gmapBackRow.holds Try.pinned (OpenSpec.ofChange Rows.gmapBackSpec) :=
  OpenClaim.holds_of_wide 8 Try.f8 rfl rfl rfl rfl rfl rfl rfl ⟨rfl, rfl, rfl, rfl, rfl⟩ rfl rfl rfl rfl rfl (by kernel_rfl) Try.func8 (by kernel_rfl)
    (of_decide_eq_true (by kernel_rfl)) (by unfold Func.isWrapper; first | (rw [if_pos (by decide +kernel)]; kernel_rfl) | (rw [if_neg (by decide +kernel)]; exact ⟨rfl, rfl⟩))
    (fun os started H enc _ => lifted os started H enc)
theorem proved : Rows.GmapBackSaid := over
end Go.Proofs.Ytgkjdpdmmlalcaa.gmapBack
namespace Go.Proofs.Ytgkjdpdmmlalcaa
/-- The law, under a short name, for the claim. -/
theorem gmapBack_holds : Rows.GmapBackSaid := gmapBack.proved
#print axioms gmapBack_holds
end Go.Proofs.Ytgkjdpdmmlalcaa
