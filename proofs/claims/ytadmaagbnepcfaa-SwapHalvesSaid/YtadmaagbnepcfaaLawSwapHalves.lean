/- The law SwapHalves holds of the given program: for every input it returns true and leaves its arguments as they were. No condition. -/
import Derived.Test.YtadmaagbnepcfaaRows
import Derived.Test.YtadmaagbnepcfaaLHalves
import Derived.Test.YtadmaagbnepcfaaOpens
import Derived.WalkKit
import Derived.ProofKit
import Derived.OpenShut
import Derived.ShutString
import Derived.ChangeOld
import Derived.Below
import Derived.SizedLaws
namespace Go.Proofs.Ytadmaagbnepcfaa.swapHalves
open Go.ChangeShapes Go.WideShapes Go.ChangeAt Go.RowKit
open Go.ChangeMaps (open_string shut_string)
open Go.Proofs.Ytadmaagbnepcfaa.F Go.Proofs.YtadmaagbnepcfaaW.PrintWords
theorem own : ownKnob Try.prog.godebug = none := by kernel_rfl
theorem laidOut : laidOutB Try.prog = true := by kernel_rfl
set_option maxRecDepth 100000 in
set_option maxHeartbeats 4000000 in
theorem lifted (os : Os) (started : os.Started) (H : Type) (enc : TypeId × Value → H) :
    ReturnsInHanded {} Try.checked os 8 .any (Rows.swapHalvesSpec.pre6 enc Try.prog Try.f8 Rows.swapHalvesRow.domain false) (Rows.swapHalvesSpec.post enc Try.prog Try.f8 false true false false) := by
  refine returnsInHanded_of_change_sized (C := Try.checked) own started (by kernel_rfl) Try.func8
    (ChangeSpec.witness6 (enc := enc) (C := Try.checked) false ⟨#[], #[.agg #[.int .u8 0, .int .u8 0, .int .u8 0, .int .u8 0], .agg #[.int .u8 0, .int .u8 0, .int .u8 0, .int .u8 0]], []⟩ 16 (by kernel_rfl) (by kernel_rfl) (by kernel_rfl) (by kernel_rfl)) ?_
  intro W base args ds gs before hval0 hW hcnd hsz0 _
  have hval : ∀ (j : Nat) t v, Try.f8.params[j]? = some t → args[j]? = some v → Value.okWide Try.prog W .any base t v := hval0
  have hW' := hW
  obtain ⟨p, q, hA0, hV, rfl, hfz, hnd⟩ := hW
  have hA : DataW.TrodAll enc Try.prog W 0 (fun _ => true) true Try.f8.params.toList args.toList ds p := hA0
  rw [Try.params8] at hA hval
  obtain ⟨v0, vs0, d0, ds0, p0, q0, hargs, rfl, rfl, h0, r0⟩ := trodAll_cons hA
  obtain ⟨v1, vs1, d1, ds1, p1, q1, rfl, rfl, rfl, h1, r1⟩ := trodAll_cons r0
  obtain ⟨rfl, rfl, rfl⟩ := trodAll_nil r1
  obtain rfl : args = #[v0, v1] := by cases args; simp_all
  obtain ⟨rfl, rfl⟩ := trodVars_none hV
  have k0 := h0
  have lt0 : ∀ x ∈ p0, x.block < W.heap.size := by obtain ⟨m, hm⟩ := k0; exact DataW.trod_lt m _ _ _ hm
  obtain ⟨cs0, x0, rfl, hK0, hw0⟩ := Opens.arg_arr Try.underlying43 (hval 0 43 v0 rfl rfl) (Opens.opens_arr (n := 4) (d := Kd.int .u8) (by decide) (by kernel_rfl) Try.underlying43 (Opens.opens_u8 (by kernel_rfl) (by kernel_rfl))) h0
  obtain ⟨e0, hcs0⟩ := Kd.arr_cells hK0
  obtain ⟨y00, y01, y02, y03, rfl⟩ : ∃ a b c d, x0 = [a, b, c, d] := by
    match x0, e0 with
    | [a, b, c, d], _ => exact ⟨a, b, c, d, rfl⟩
  subst hcs0
  have k1 := h1
  have lt1 : ∀ x ∈ p1, x.block < W.heap.size := by obtain ⟨m, hm⟩ := k1; exact DataW.trod_lt m _ _ _ hm
  obtain ⟨cs1, x1, rfl, hK1, hw1⟩ := Opens.arg_arr Try.underlying43 (hval 1 43 v1 rfl rfl) (Opens.opens_arr (n := 4) (d := Kd.int .u8) (by decide) (by kernel_rfl) Try.underlying43 (Opens.opens_u8 (by kernel_rfl) (by kernel_rfl))) h1
  obtain ⟨e1, hcs1⟩ := Kd.arr_cells hK1
  obtain ⟨y10, y11, y12, y13, rfl⟩ : ∃ a b c d, x1 = [a, b, c, d] := by
    match x1, e1 with
    | [a, b, c, d], _ => exact ⟨a, b, c, d, rfl⟩
  subst hcs1
  clear hA0 hval0 hsz0
  refine (halves_walk y00 y01 y02 y03 y10 y11 y12 y13 W).mono ?_
  rintro e W' ⟨rfl, bel0⟩
  have bel : Below W.heap.size W W' := bel0
  exact ⟨_, rfl, _, _, _, [], _, [], hW', trodAll_mk1 (shut_bool Try.underlying4 _), (trodAll_cons_mk (Below.trod laidOut (by kernel_rfl) (of_decide_eq_true (by kernel_rfl)) k0 bel lt0) (trodAll_cons_mk (Below.trod laidOut (by kernel_rfl) (of_decide_eq_true (by kernel_rfl)) k1 bel lt1) trodAll_mk0)), rfl, bel.frame _, fun h => by cases h⟩
theorem over : Rows.swapHalvesRow.holds Try.pinned (OpenSpec.ofChange Rows.swapHalvesSpec) :=
  OpenClaim.holds_of_wide 8 Try.f8 rfl rfl rfl rfl rfl rfl rfl ⟨rfl, rfl, rfl, rfl, rfl⟩ rfl rfl rfl rfl rfl (by kernel_rfl) Try.func8 (by kernel_rfl)
    (of_decide_eq_true (by kernel_rfl)) (by unfold Func.isWrapper; first | (rw [if_pos (by decide +kernel)]; kernel_rfl) | (rw [if_neg (by decide +kernel)]; exact ⟨rfl, rfl⟩))
    (fun os started H enc _ => lifted os started H enc)
theorem proved : Rows.SwapHalvesSaid := over
end Go.Proofs.Ytadmaagbnepcfaa.swapHalves
namespace Go.Proofs.Ytadmaagbnepcfaa
/-- The law, under a short name, for the claim. -/
theorem swapHalves_holds : Rows.SwapHalvesSaid := swapHalves.proved
#print axioms swapHalves_holds
end Go.Proofs.Ytadmaagbnepcfaa
