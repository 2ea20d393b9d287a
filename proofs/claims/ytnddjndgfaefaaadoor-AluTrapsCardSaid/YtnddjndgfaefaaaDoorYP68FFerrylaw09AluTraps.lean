import Derived.Below
import Derived.Deep.Draws
import Derived.Deep.AppendLies
import Derived.Maps.AppendAt
import Derived.OwnWalk
import Derived.Laws.BytesArg
import Derived.Laws.MakeOwn
import Derived.Laws.OwnMore
import Derived.Deep.OwnRows
import Derived.Tactics
import Derived.Lib.ConvBytes
import Derived.Laws.Slices
import Derived.WalkKit
import Derived.KernelRfl
import Derived.RowKit3
import Derived.Deep.LoopGhost
import Derived.Deep.QuietTactic
import Derived.BigQuiet
import Derived.WideLaws
import Derived.Deep.DeepCutAuto
import Derived.Deep.CutBlock
import Derived.Deep.RegionHeld3
import Derived.Laws.Rows
import Derived.Lib.AppendStr
import Derived.ArgAppend
import Derived.Laws.IdiomCopy
import Derived.RowKit
import Derived.OrdersHeld
import Derived.Laws.BitsLemmas
import Derived.Laws.StructEq
import Derived.WalkLawsBesides
import Derived.Shelf.Abstract
import Derived.Shelf.RegionOpen
import Derived.RangeFuncRecord
import Derived.OwnWalkIn
import Derived.ProofKit
import Derived.Lib.Hide
import Derived.Shelf.Small.Bits
import Derived.Shelf.LaysM
import Derived.Shelf.Strings.Fields
import Derived.Shelf.Strings.Replace
import Derived.Shelf.Strings.SplitShaped
import Derived.Lib.LaidTab
import Derived.Maps.OwnOps
import Derived.WalkSmall
import Derived.Laws.ResultCell
import Derived.Deep.RegionWith
import Derived.Defers
import Derived.Recover
import Derived.Tactics2
import Derived.Test.YtnddjndgfaefaaaDoorZF0
import Derived.Test.YtnddjndgfaefaaaDoorYA0
import Derived.Test.YtnddjndgfaefaaaDoorYA16HAluDo
import Derived.Test.YtnddjndgfaefaaaDoorYA17FFerrylaw09Of
import Derived.Test.YtnddjndgfaefaaaDoorYA18FFerrylaw09Awake
import Derived.Test.YtnddjndgfaefaaaDoorYK31
section
namespace Go.Proofs.YtnddjndgfaefaaaDoor.F
open Go.RowKit Go.Proofs.YtnddjndgfaefaaaDoorW.PrintWords Go.Proofs.YtnddjndgfaefaaaDoorW.PrintLast Go.Proofs.YtnddjndgfaefaaaDoorW.PrintMore
attribute [local go_sem] max2_int min2_int max_two min_two max_three min_three max_four min_four
set_option linter.unusedVariables false
set_option linter.unusedSimpArgs false

def ferrylaw09_AluTraps.j0 : Nat → Int → Int → Int → Int → Int → Bool → Option (Bool)
  | 0, _, _, _, _, _, _ => none
  | k + 1, x0, x1, x5, x7, x9, x53 => if x53 = true then (some false) else ((alu_Traps.f (⟨#[116, 108, 116]⟩ : ByteArray) x0 x1).bind fun t285 => (if (t285 == (x5 == 1)) = true then ((alu_Traps.f (⟨#[116, 108, 116, 117]⟩ : ByteArray) x0 x1).bind fun t286 => (if (t286 == (x7 == 1)) = true then (if ((((x5 + x9) % 4294967296) == 1) == (x0 != x1)) = true then ((alu_Traps.f (⟨#[116, 101, 113]⟩ : ByteArray) x0 x1).bind fun t287 => (if (t287 == (x0 == x1)) = true then ((ferrylaw09_awake.f).bind fun t288 => (some t288)) else (some false))) else (some false)) else (some false))) else (some false)))
def ferrylaw09_AluTraps.f (k : Nat) (a0 : Int) (a1 : Int) : Option (Bool) := (ferrylaw09_of.f (⟨#[115, 108, 116]⟩ : ByteArray) a0 a1).bind fun bt273 => ((ferrylaw09_of.f (⟨#[115, 108, 116, 117]⟩ : ByteArray) a0 a1).bind fun bt275 => ((ferrylaw09_of.f (⟨#[115, 108, 116]⟩ : ByteArray) a1 a0).bind fun bt277 => ((alu_Traps.f (⟨#[116, 103, 101]⟩ : ByteArray) a0 a1).bind fun t279 => ((alu_Traps.f (⟨#[116, 108, 116]⟩ : ByteArray) a0 a1).bind fun t280 => (if (t279 == t280) = true then (ferrylaw09_AluTraps.j0 k a0 a1 bt273.1 bt275.1 bt277.1 true) else ((alu_Traps.f (⟨#[116, 103, 101, 117]⟩ : ByteArray) a0 a1).bind fun t281 => ((alu_Traps.f (⟨#[116, 108, 116, 117]⟩ : ByteArray) a0 a1).bind fun t282 => (if (t281 == t282) = true then (ferrylaw09_AluTraps.j0 k a0 a1 bt273.1 bt275.1 bt277.1 true) else ((alu_Traps.f (⟨#[116, 101, 113]⟩ : ByteArray) a0 a1).bind fun t283 => ((alu_Traps.f (⟨#[116, 110, 101]⟩ : ByteArray) a0 a1).bind fun t284 => (ferrylaw09_AluTraps.j0 k a0 a1 bt273.1 bt275.1 bt277.1 (t283 == t284))))))))))))
set_option maxHeartbeats 8000000 in
set_option maxRecDepth 100000 in
theorem ferrylaw09_AluTraps.calls (k : Nat) (a0 : Int) (a1 : Int) (r : Bool) (w : World) (hL : Laid w) (h : ferrylaw09_AluTraps.f k a0 a1 = some r) :
    Calls Tryd.prog 7 #[.int .u32 a0, .int .u32 a1] w fun e w' => e = .returned (.bool r) ∧ Below w.heap.size w w' := by
  have HB := Aside0.mk (Below.refl w.heap.size w)
  have H : ((ferrylaw09_of.f (⟨#[115, 108, 116]⟩ : ByteArray) a0 a1).bind fun bt273 => ((ferrylaw09_of.f (⟨#[115, 108, 116, 117]⟩ : ByteArray) a0 a1).bind fun bt275 => ((ferrylaw09_of.f (⟨#[115, 108, 116]⟩ : ByteArray) a1 a0).bind fun bt277 => ((alu_Traps.f (⟨#[116, 103, 101]⟩ : ByteArray) a0 a1).bind fun t279 => ((alu_Traps.f (⟨#[116, 108, 116]⟩ : ByteArray) a0 a1).bind fun t280 => (if (t279 == t280) = true then (ferrylaw09_AluTraps.j0 k a0 a1 bt273.1 bt275.1 bt277.1 true) else ((alu_Traps.f (⟨#[116, 103, 101, 117]⟩ : ByteArray) a0 a1).bind fun t281 => ((alu_Traps.f (⟨#[116, 108, 116, 117]⟩ : ByteArray) a0 a1).bind fun t282 => (if (t281 == t282) = true then (ferrylaw09_AluTraps.j0 k a0 a1 bt273.1 bt275.1 bt277.1 true) else ((alu_Traps.f (⟨#[116, 101, 113]⟩ : ByteArray) a0 a1).bind fun t283 => ((alu_Traps.f (⟨#[116, 110, 101]⟩ : ByteArray) a0 a1).bind fun t284 => (ferrylaw09_AluTraps.j0 k a0 a1 bt273.1 bt275.1 bt277.1 (t283 == t284))))))))))))) = some r := h
  clear h
  replace H := Option.bind_eq_some_iff.mp H
  obtain ⟨⟨t273, t274⟩, A30, H⟩ := H
  replace H : ((ferrylaw09_of.f (⟨#[115, 108, 116, 117]⟩ : ByteArray) a0 a1).bind fun bt275 => ((ferrylaw09_of.f (⟨#[115, 108, 116]⟩ : ByteArray) a1 a0).bind fun bt277 => ((alu_Traps.f (⟨#[116, 103, 101]⟩ : ByteArray) a0 a1).bind fun t279 => ((alu_Traps.f (⟨#[116, 108, 116]⟩ : ByteArray) a0 a1).bind fun t280 => (if (t279 == t280) = true then (ferrylaw09_AluTraps.j0 k a0 a1 t273 bt275.1 bt277.1 true) else ((alu_Traps.f (⟨#[116, 103, 101, 117]⟩ : ByteArray) a0 a1).bind fun t281 => ((alu_Traps.f (⟨#[116, 108, 116, 117]⟩ : ByteArray) a0 a1).bind fun t282 => (if (t281 == t282) = true then (ferrylaw09_AluTraps.j0 k a0 a1 t273 bt275.1 bt277.1 true) else ((alu_Traps.f (⟨#[116, 101, 113]⟩ : ByteArray) a0 a1).bind fun t283 => ((alu_Traps.f (⟨#[116, 110, 101]⟩ : ByteArray) a0 a1).bind fun t284 => (ferrylaw09_AluTraps.j0 k a0 a1 t273 bt275.1 bt277.1 (t283 == t284)))))))))))) = some r := H
  have A3 := Aside0.mk A30
  clear A30
  replace H := Option.bind_eq_some_iff.mp H
  obtain ⟨⟨t275, t276⟩, A40, H⟩ := H
  replace H : ((ferrylaw09_of.f (⟨#[115, 108, 116]⟩ : ByteArray) a1 a0).bind fun bt277 => ((alu_Traps.f (⟨#[116, 103, 101]⟩ : ByteArray) a0 a1).bind fun t279 => ((alu_Traps.f (⟨#[116, 108, 116]⟩ : ByteArray) a0 a1).bind fun t280 => (if (t279 == t280) = true then (ferrylaw09_AluTraps.j0 k a0 a1 t273 t275 bt277.1 true) else ((alu_Traps.f (⟨#[116, 103, 101, 117]⟩ : ByteArray) a0 a1).bind fun t281 => ((alu_Traps.f (⟨#[116, 108, 116, 117]⟩ : ByteArray) a0 a1).bind fun t282 => (if (t281 == t282) = true then (ferrylaw09_AluTraps.j0 k a0 a1 t273 t275 bt277.1 true) else ((alu_Traps.f (⟨#[116, 101, 113]⟩ : ByteArray) a0 a1).bind fun t283 => ((alu_Traps.f (⟨#[116, 110, 101]⟩ : ByteArray) a0 a1).bind fun t284 => (ferrylaw09_AluTraps.j0 k a0 a1 t273 t275 bt277.1 (t283 == t284))))))))))) = some r := H
  have A4 := Aside0.mk A40
  clear A40
  replace H := Option.bind_eq_some_iff.mp H
  obtain ⟨⟨t277, t278⟩, A50, H⟩ := H
  replace H : ((alu_Traps.f (⟨#[116, 103, 101]⟩ : ByteArray) a0 a1).bind fun t279 => ((alu_Traps.f (⟨#[116, 108, 116]⟩ : ByteArray) a0 a1).bind fun t280 => (if (t279 == t280) = true then (ferrylaw09_AluTraps.j0 k a0 a1 t273 t275 t277 true) else ((alu_Traps.f (⟨#[116, 103, 101, 117]⟩ : ByteArray) a0 a1).bind fun t281 => ((alu_Traps.f (⟨#[116, 108, 116, 117]⟩ : ByteArray) a0 a1).bind fun t282 => (if (t281 == t282) = true then (ferrylaw09_AluTraps.j0 k a0 a1 t273 t275 t277 true) else ((alu_Traps.f (⟨#[116, 101, 113]⟩ : ByteArray) a0 a1).bind fun t283 => ((alu_Traps.f (⟨#[116, 110, 101]⟩ : ByteArray) a0 a1).bind fun t284 => (ferrylaw09_AluTraps.j0 k a0 a1 t273 t275 t277 (t283 == t284)))))))))) = some r := H
  have A5 := Aside0.mk A50
  clear A50
  have HC6 := Aside0.mk H
  clear H
  go_enter Tryd.func7, Tryd.ntmps7
  go_upto_region 4 with (first | ((with_reducible refine gate_callee (f := 8) rfl ?_); refine goesL_ (some 14) rfl rfl Tryd.func8 (by kernel_rfl) rfl #[.string (⟨#[115, 108, 116]⟩ : ByteArray), .int .u32 a0, .int .u32 a1] rfl (by (try simp only [List.map_toArray, List.map_cons, List.map_nil]); first | done | rfl | (simp only [List.length_drop, List.length_take]; rfl)) ?_; (with_reducible refine (ferrylaw09_of.calls (⟨#[115, 108, 116]⟩ : ByteArray) a0 a1 t273 t274 _ ?side1 A3.out).mono ?_); (case side1 => first | with_reducible exact hL | exact Laid.below hL (by repeat (first | (with_reducible first | exact HB.out | apply below_alloc | apply pw_below_drewN | apply below_drew1) | exact HB.out))); rintro e w7 ⟨rfl, hb⟩; refine ⟨_, rfl, ?_⟩; have n0_ := Aside0.mk (below_step (by repeat (first | (with_reducible first | exact HB.out | apply below_alloc | apply pw_below_drewN | apply below_drew1) | exact HB.out)) hb); clear HB; have HB := n0_; clear n0_; (try clear hb); (try clear hb2); (try clear hk); (try clear hi)) | ((with_reducible refine gate_callee (f := 8) rfl ?_); refine goesL_ (some 20) rfl rfl Tryd.func8 (by kernel_rfl) rfl #[.string (⟨#[115, 108, 116, 117]⟩ : ByteArray), .int .u32 a0, .int .u32 a1] rfl (by (try simp only [List.map_toArray, List.map_cons, List.map_nil]); first | done | rfl | (simp only [List.length_drop, List.length_take]; rfl)) ?_; (with_reducible refine (ferrylaw09_of.calls (⟨#[115, 108, 116, 117]⟩ : ByteArray) a0 a1 t275 t276 _ ?side1 A4.out).mono ?_); (case side1 => first | with_reducible exact hL | exact Laid.below hL (by repeat (first | (with_reducible first | exact HB.out | apply below_alloc | apply pw_below_drewN | apply below_drew1) | exact HB.out))); rintro e w8 ⟨rfl, hb⟩; refine ⟨_, rfl, ?_⟩; have n0_ := Aside0.mk (below_step (by repeat (first | (with_reducible first | exact HB.out | apply below_alloc | apply pw_below_drewN | apply below_drew1) | exact HB.out)) hb); clear HB; have HB := n0_; clear n0_; (try clear hb); (try clear hb2); (try clear hk); (try clear hi)) | ((with_reducible refine gate_callee (f := 8) rfl ?_); refine goesL_ (some 26) rfl rfl Tryd.func8 (by kernel_rfl) rfl #[.string (⟨#[115, 108, 116]⟩ : ByteArray), .int .u32 a1, .int .u32 a0] rfl (by (try simp only [List.map_toArray, List.map_cons, List.map_nil]); first | done | rfl | (simp only [List.length_drop, List.length_take]; rfl)) ?_; (with_reducible refine (ferrylaw09_of.calls (⟨#[115, 108, 116]⟩ : ByteArray) a1 a0 t277 t278 _ ?side1 A5.out).mono ?_); (case side1 => first | with_reducible exact hL | exact Laid.below hL (by repeat (first | (with_reducible first | exact HB.out | apply below_alloc | apply pw_below_drewN | apply below_drew1) | exact HB.out))); rintro e w9 ⟨rfl, hb⟩; refine ⟨_, rfl, ?_⟩; have n0_ := Aside0.mk (below_step (by repeat (first | (with_reducible first | exact HB.out | apply below_alloc | apply pw_below_drewN | apply below_drew1) | exact HB.out)) hb); clear HB; have HB := n0_; clear n0_; (try clear hb); (try clear hb2); (try clear hk); (try clear hi)))
  (try simp only [Act.put, List.setIfInBounds_toArray, List.set_cons_zero, List.set_cons_succ])
  go_cut [53] (fun v53 wc => ∃ (kq : Nat) (x53_5 : Bool), v53 = .bool x53_5 ∧ Aside0 (ferrylaw09_AluTraps.j0 kq a0 a1 t273 t275 t277 x53_5 = some r) ∧ Aside0 (kq ≤ k) ∧ Aside0 (Below w.heap.size w wc))
  case first =>
    have H := HC6.out
    clear HC6
    replace H := Option.bind_eq_some_iff.mp H
    obtain ⟨t279, A100, H⟩ := H
    replace H : ((alu_Traps.f (⟨#[116, 108, 116]⟩ : ByteArray) a0 a1).bind fun t280 => (if (t279 == t280) = true then (ferrylaw09_AluTraps.j0 k a0 a1 t273 t275 t277 true) else ((alu_Traps.f (⟨#[116, 103, 101, 117]⟩ : ByteArray) a0 a1).bind fun t281 => ((alu_Traps.f (⟨#[116, 108, 116, 117]⟩ : ByteArray) a0 a1).bind fun t282 => (if (t281 == t282) = true then (ferrylaw09_AluTraps.j0 k a0 a1 t273 t275 t277 true) else ((alu_Traps.f (⟨#[116, 101, 113]⟩ : ByteArray) a0 a1).bind fun t283 => ((alu_Traps.f (⟨#[116, 110, 101]⟩ : ByteArray) a0 a1).bind fun t284 => (ferrylaw09_AluTraps.j0 k a0 a1 t273 t275 t277 (t283 == t284))))))))) = some r := H
    have A10 := Aside0.mk A100
    clear A100
    replace H := Option.bind_eq_some_iff.mp H
    obtain ⟨t280, A110, H⟩ := H
    replace H : (if (t279 == t280) = true then (ferrylaw09_AluTraps.j0 k a0 a1 t273 t275 t277 true) else ((alu_Traps.f (⟨#[116, 103, 101, 117]⟩ : ByteArray) a0 a1).bind fun t281 => ((alu_Traps.f (⟨#[116, 108, 116, 117]⟩ : ByteArray) a0 a1).bind fun t282 => (if (t281 == t282) = true then (ferrylaw09_AluTraps.j0 k a0 a1 t273 t275 t277 true) else ((alu_Traps.f (⟨#[116, 101, 113]⟩ : ByteArray) a0 a1).bind fun t283 => ((alu_Traps.f (⟨#[116, 110, 101]⟩ : ByteArray) a0 a1).bind fun t284 => (ferrylaw09_AluTraps.j0 k a0 a1 t273 t275 t277 (t283 == t284)))))))) = some r := H
    have A11 := Aside0.mk A110
    clear A110
    by_cases c12 : (t279 == t280) = true
    · rw [if_pos c12] at H
      have c12b0 : (t279 == t280) = true := c12
      (try (have c12b1 : decide (t279 = t280) = true := by simpa using c12))
      (try (have c12b2 : (t279 == t280) = true := by simpa using c12))
      clear c12
      (first | rw [c12b0] | (simp only [i64_w, i32_w]; rw [c12b0]) | skip)
      have H' := Aside0.mk H
      clear H
      go_wp2_with (first | ((with_reducible refine gate_callee (f := 14) rfl ?_); refine goesL_ (some 31) rfl rfl Tryd.func14 (by kernel_rfl) rfl #[.string (⟨#[116, 103, 101]⟩ : ByteArray), .int .u32 a0, .int .u32 a1] rfl (by (try simp only [List.map_toArray, List.map_cons, List.map_nil]); first | done | rfl | (simp only [List.length_drop, List.length_take]; rfl)) ?_; (with_reducible refine (alu_Traps.calls (⟨#[116, 103, 101]⟩ : ByteArray) a0 a1 t279 _ A10.out).mono ?_); rintro e w' ⟨rfl, ⟨nd, rfl⟩⟩; refine ⟨_, rfl, ?_⟩) | ((with_reducible refine gate_callee (f := 14) rfl ?_); refine goesL_ (some 34) rfl rfl Tryd.func14 (by kernel_rfl) rfl #[.string (⟨#[116, 108, 116]⟩ : ByteArray), .int .u32 a0, .int .u32 a1] rfl (by (try simp only [List.map_toArray, List.map_cons, List.map_nil]); first | done | rfl | (simp only [List.length_drop, List.length_take]; rfl)) ?_; (with_reducible refine (alu_Traps.calls (⟨#[116, 108, 116]⟩ : ByteArray) a0 a1 t280 _ A11.out).mono ?_); rintro e w' ⟨rfl, ⟨nd, rfl⟩⟩; refine ⟨_, rfl, ?_⟩))
      go_meet
      case rel => exact ⟨_, (true), (by first | rfl | (simp; done) | (simp [*]; done)), H', ⟨by first | omega | exact Nat.le_refl _⟩, ⟨by repeat (first | (with_reducible first | exact HB.out | apply below_alloc | apply pw_below_drewN | apply below_drew1) | exact HB.out)⟩⟩
    · rw [if_neg c12] at H
      have c12b0 : (t279 == t280) = false := by simpa using c12
      (try (have c12b1 : decide (t279 = t280) = false := by simpa using c12))
      (try (have c12b2 : (t279 == t280) = false := by simpa using c12))
      (try (have c12b3 : ¬ (t279 = t280) := by simpa using c12))
      clear c12
      (first | rw [c12b0] | (simp only [i64_w, i32_w]; rw [c12b0]) | skip)
      replace H := Option.bind_eq_some_iff.mp H
      obtain ⟨t281, A130, H⟩ := H
      replace H : ((alu_Traps.f (⟨#[116, 108, 116, 117]⟩ : ByteArray) a0 a1).bind fun t282 => (if (t281 == t282) = true then (ferrylaw09_AluTraps.j0 k a0 a1 t273 t275 t277 true) else ((alu_Traps.f (⟨#[116, 101, 113]⟩ : ByteArray) a0 a1).bind fun t283 => ((alu_Traps.f (⟨#[116, 110, 101]⟩ : ByteArray) a0 a1).bind fun t284 => (ferrylaw09_AluTraps.j0 k a0 a1 t273 t275 t277 (t283 == t284)))))) = some r := H
      have A13 := Aside0.mk A130
      clear A130
      replace H := Option.bind_eq_some_iff.mp H
      obtain ⟨t282, A140, H⟩ := H
      replace H : (if (t281 == t282) = true then (ferrylaw09_AluTraps.j0 k a0 a1 t273 t275 t277 true) else ((alu_Traps.f (⟨#[116, 101, 113]⟩ : ByteArray) a0 a1).bind fun t283 => ((alu_Traps.f (⟨#[116, 110, 101]⟩ : ByteArray) a0 a1).bind fun t284 => (ferrylaw09_AluTraps.j0 k a0 a1 t273 t275 t277 (t283 == t284))))) = some r := H
      have A14 := Aside0.mk A140
      clear A140
      by_cases c15 : (t281 == t282) = true
      · rw [if_pos c15] at H
        have c15b0 : (t281 == t282) = true := c15
        (try (have c15b1 : decide (t281 = t282) = true := by simpa using c15))
        (try (have c15b2 : (t281 == t282) = true := by simpa using c15))
        clear c15
        have H' := Aside0.mk H
        clear H
        go_wp2_with (first | ((with_reducible refine gate_callee (f := 14) rfl ?_); refine goesL_ (some 31) rfl rfl Tryd.func14 (by kernel_rfl) rfl #[.string (⟨#[116, 103, 101]⟩ : ByteArray), .int .u32 a0, .int .u32 a1] rfl (by (try simp only [List.map_toArray, List.map_cons, List.map_nil]); first | done | rfl | (simp only [List.length_drop, List.length_take]; rfl)) ?_; (with_reducible refine (alu_Traps.calls (⟨#[116, 103, 101]⟩ : ByteArray) a0 a1 t279 _ A10.out).mono ?_); rintro e w' ⟨rfl, ⟨nd, rfl⟩⟩; refine ⟨_, rfl, ?_⟩) | ((with_reducible refine gate_callee (f := 14) rfl ?_); refine goesL_ (some 34) rfl rfl Tryd.func14 (by kernel_rfl) rfl #[.string (⟨#[116, 108, 116]⟩ : ByteArray), .int .u32 a0, .int .u32 a1] rfl (by (try simp only [List.map_toArray, List.map_cons, List.map_nil]); first | done | rfl | (simp only [List.length_drop, List.length_take]; rfl)) ?_; (with_reducible refine (alu_Traps.calls (⟨#[116, 108, 116]⟩ : ByteArray) a0 a1 t280 _ A11.out).mono ?_); rintro e w' ⟨rfl, ⟨nd, rfl⟩⟩; refine ⟨_, rfl, ?_⟩) | (go_at_call 14; (with_reducible refine (alu_Traps.calls (⟨#[116, 103, 101, 117]⟩ : ByteArray) a0 a1 t281 _ A13.out).mono ?_); rintro e w' ⟨rfl, ⟨nd, rfl⟩⟩) | (go_at_call 14; (with_reducible refine (alu_Traps.calls (⟨#[116, 108, 116, 117]⟩ : ByteArray) a0 a1 t282 _ A14.out).mono ?_); rintro e w' ⟨rfl, ⟨nd, rfl⟩⟩))
        go_meet
        case rel => exact ⟨_, (true), (by first | rfl | (simp; done) | (simp [*]; done)), H', ⟨by first | omega | exact Nat.le_refl _⟩, ⟨by repeat (first | (with_reducible first | exact HB.out | apply below_alloc | apply pw_below_drewN | apply below_drew1) | exact HB.out)⟩⟩
      · rw [if_neg c15] at H
        have c15b0 : (t281 == t282) = false := by simpa using c15
        (try (have c15b1 : decide (t281 = t282) = false := by simpa using c15))
        (try (have c15b2 : (t281 == t282) = false := by simpa using c15))
        (try (have c15b3 : ¬ (t281 = t282) := by simpa using c15))
        clear c15
        replace H := Option.bind_eq_some_iff.mp H
        obtain ⟨t283, A160, H⟩ := H
        replace H : ((alu_Traps.f (⟨#[116, 110, 101]⟩ : ByteArray) a0 a1).bind fun t284 => (ferrylaw09_AluTraps.j0 k a0 a1 t273 t275 t277 (t283 == t284))) = some r := H
        have A16 := Aside0.mk A160
        clear A160
        replace H := Option.bind_eq_some_iff.mp H
        obtain ⟨t284, A170, H⟩ := H
        replace H : (ferrylaw09_AluTraps.j0 k a0 a1 t273 t275 t277 (t283 == t284)) = some r := H
        have A17 := Aside0.mk A170
        clear A170
        have H' := Aside0.mk H
        clear H
        go_wp2_with (first | ((with_reducible refine gate_callee (f := 14) rfl ?_); refine goesL_ (some 31) rfl rfl Tryd.func14 (by kernel_rfl) rfl #[.string (⟨#[116, 103, 101]⟩ : ByteArray), .int .u32 a0, .int .u32 a1] rfl (by (try simp only [List.map_toArray, List.map_cons, List.map_nil]); first | done | rfl | (simp only [List.length_drop, List.length_take]; rfl)) ?_; (with_reducible refine (alu_Traps.calls (⟨#[116, 103, 101]⟩ : ByteArray) a0 a1 t279 _ A10.out).mono ?_); rintro e w' ⟨rfl, ⟨nd, rfl⟩⟩; refine ⟨_, rfl, ?_⟩) | ((with_reducible refine gate_callee (f := 14) rfl ?_); refine goesL_ (some 34) rfl rfl Tryd.func14 (by kernel_rfl) rfl #[.string (⟨#[116, 108, 116]⟩ : ByteArray), .int .u32 a0, .int .u32 a1] rfl (by (try simp only [List.map_toArray, List.map_cons, List.map_nil]); first | done | rfl | (simp only [List.length_drop, List.length_take]; rfl)) ?_; (with_reducible refine (alu_Traps.calls (⟨#[116, 108, 116]⟩ : ByteArray) a0 a1 t280 _ A11.out).mono ?_); rintro e w' ⟨rfl, ⟨nd, rfl⟩⟩; refine ⟨_, rfl, ?_⟩) | (go_at_call 14; (with_reducible refine (alu_Traps.calls (⟨#[116, 103, 101, 117]⟩ : ByteArray) a0 a1 t281 _ A13.out).mono ?_); rintro e w' ⟨rfl, ⟨nd, rfl⟩⟩) | (go_at_call 14; (with_reducible refine (alu_Traps.calls (⟨#[116, 108, 116, 117]⟩ : ByteArray) a0 a1 t282 _ A14.out).mono ?_); rintro e w' ⟨rfl, ⟨nd, rfl⟩⟩) | (go_at_call 14; (with_reducible refine (alu_Traps.calls (⟨#[116, 101, 113]⟩ : ByteArray) a0 a1 t283 _ A16.out).mono ?_); rintro e w' ⟨rfl, ⟨nd, rfl⟩⟩) | (go_at_call 14; (with_reducible refine (alu_Traps.calls (⟨#[116, 110, 101]⟩ : ByteArray) a0 a1 t284 _ A17.out).mono ?_); rintro e w' ⟨rfl, ⟨nd, rfl⟩⟩))
        go_meet
        case rel => exact ⟨_, ((t283 == t284)), (by first | rfl | (simp; done) | (simp [*]; done)), H', ⟨by first | omega | exact Nat.le_refl _⟩, ⟨by repeat (first | (with_reducible first | exact HB.out | apply below_alloc | apply pw_below_drewN | apply below_drew1) | exact HB.out)⟩⟩
  case rest =>
    clear HC6
    try clear c1
    try clear p2
    try clear c7
    try clear c8
    try clear c12
    try clear c12b0
    try clear c12b1
    try clear c12b2
    try clear c14
    try clear c15
    try clear c15b0
    try clear c15b1
    try clear c15b2
    obtain ⟨kq, x53_5, rfl, HA, HJ5, HB⟩ := hcut
    cases kq with
    | zero => exact absurd HA.out (by simp [ferrylaw09_AluTraps.j0])
    | succ kj5 =>
      have H := HA.out
      clear HA
      simp only [ferrylaw09_AluTraps.j0] at H
      by_cases c18 : x53_5 = true
      · subst c18
        have H1 : (some false) = some r := by rw [if_pos rfl] at H; exact H
        clear H
        have H := H1
        clear H1
        obtain rfl := Option.some.inj H
        go_wp2
        go_ret
        exact ⟨by first | rfl | (simp [errW_none, errW_some] <;> rfl) | (simp [*, errW_none, errW_some] <;> rfl), by repeat (first | (with_reducible first | exact HB.out | apply below_alloc | apply pw_below_drewN | apply below_drew1) | exact HB.out)⟩
      · replace c18 := Bool.eq_false_iff.mpr c18
        subst c18
        have H1 : ((alu_Traps.f (⟨#[116, 108, 116]⟩ : ByteArray) a0 a1).bind fun t285 => (if (t285 == (t273 == 1)) = true then ((alu_Traps.f (⟨#[116, 108, 116, 117]⟩ : ByteArray) a0 a1).bind fun t286 => (if (t286 == (t275 == 1)) = true then (if ((((t273 + t277) % 4294967296) == 1) == (a0 != a1)) = true then ((alu_Traps.f (⟨#[116, 101, 113]⟩ : ByteArray) a0 a1).bind fun t287 => (if (t287 == (a0 == a1)) = true then ((ferrylaw09_awake.f).bind fun t288 => (some t288)) else (some false))) else (some false)) else (some false))) else (some false))) = some r := by rw [if_neg (show ¬ (false = true) by decide)] at H; exact H
        clear H
        have H := H1
        clear H1
        replace H := Option.bind_eq_some_iff.mp H
        obtain ⟨t285, A190, H⟩ := H
        replace H : (if (t285 == (t273 == 1)) = true then ((alu_Traps.f (⟨#[116, 108, 116, 117]⟩ : ByteArray) a0 a1).bind fun t286 => (if (t286 == (t275 == 1)) = true then (if ((((t273 + t277) % 4294967296) == 1) == (a0 != a1)) = true then ((alu_Traps.f (⟨#[116, 101, 113]⟩ : ByteArray) a0 a1).bind fun t287 => (if (t287 == (a0 == a1)) = true then ((ferrylaw09_awake.f).bind fun t288 => (some t288)) else (some false))) else (some false)) else (some false))) else (some false)) = some r := H
        have A19 := Aside0.mk A190
        clear A190
        by_cases c20 : (t285 == (t273 == 1)) = true
        · rw [if_pos c20] at H
          have c20b0 : (t285 == (t273 == 1)) = true := c20
          (try (have c20b1 : decide (t285 = (t273 == 1)) = true := by simpa using c20))
          (try (have c20b2 : (t285 == (t273 == 1)) = true := by simpa using c20))
          clear c20
          replace H := Option.bind_eq_some_iff.mp H
          obtain ⟨t286, A210, H⟩ := H
          replace H : (if (t286 == (t275 == 1)) = true then (if ((((t273 + t277) % 4294967296) == 1) == (a0 != a1)) = true then ((alu_Traps.f (⟨#[116, 101, 113]⟩ : ByteArray) a0 a1).bind fun t287 => (if (t287 == (a0 == a1)) = true then ((ferrylaw09_awake.f).bind fun t288 => (some t288)) else (some false))) else (some false)) else (some false)) = some r := H
          have A21 := Aside0.mk A210
          clear A210
          by_cases c22 : (t286 == (t275 == 1)) = true
          · rw [if_pos c22] at H
            have c22b0 : (t286 == (t275 == 1)) = true := c22
            (try (have c22b1 : decide (t286 = (t275 == 1)) = true := by simpa using c22))
            (try (have c22b2 : (t286 == (t275 == 1)) = true := by simpa using c22))
            clear c22
            by_cases c23 : ((((t273 + t277) % 4294967296) == 1) == (a0 != a1)) = true
            · rw [if_pos c23] at H
              have c23b0 : ((((t273 + t277) % 4294967296) == 1) == (a0 != a1)) = true := c23
              (try (have c23bs0 := c23b0; simp only [Int.add_emod_emod, Int.emod_add_emod, Int.sub_emod_emod, Int.emod_sub_emod] at c23bs0))
              (try (have c23b1 : decide ((((t273 + t277) % 4294967296) == 1) = (a0 != a1)) = true := by simpa using c23))
              (try (have c23bs1 := c23b1; simp only [Int.add_emod_emod, Int.emod_add_emod, Int.sub_emod_emod, Int.emod_sub_emod] at c23bs1))
              (try (have c23b2 : ((((t273 + t277) % 4294967296) == 1) == (a0 != a1)) = true := by simpa using c23))
              (try (have c23bs2 := c23b2; simp only [Int.add_emod_emod, Int.emod_add_emod, Int.sub_emod_emod, Int.emod_sub_emod] at c23bs2))
              clear c23
              replace H := Option.bind_eq_some_iff.mp H
              obtain ⟨t287, A240, H⟩ := H
              replace H : (if (t287 == (a0 == a1)) = true then ((ferrylaw09_awake.f).bind fun t288 => (some t288)) else (some false)) = some r := H
              have A24 := Aside0.mk A240
              clear A240
              by_cases c25 : (t287 == (a0 == a1)) = true
              · rw [if_pos c25] at H
                have c25b0 : (t287 == (a0 == a1)) = true := c25
                (try (have c25b1 : decide (t287 = (a0 == a1)) = true := by simpa using c25))
                (try (have c25b2 : (t287 == (a0 == a1)) = true := by simpa using c25))
                clear c25
                replace H := Option.bind_eq_some_iff.mp H
                obtain ⟨t288, A260, H⟩ := H
                replace H : (some t288) = some r := H
                have A26 := Aside0.mk A260
                clear A260
                obtain rfl := Option.some.inj H
                go_wp2_with (first | ((with_reducible refine gate_callee (f := 14) rfl ?_); refine goesL_ (some 56) rfl rfl Tryd.func14 (by kernel_rfl) rfl #[.string (⟨#[116, 108, 116]⟩ : ByteArray), .int .u32 a0, .int .u32 a1] rfl (by (try simp only [List.map_toArray, List.map_cons, List.map_nil]); first | done | rfl | (simp only [List.length_drop, List.length_take]; rfl)) ?_; (with_reducible refine (alu_Traps.calls (⟨#[116, 108, 116]⟩ : ByteArray) a0 a1 t285 _ A19.out).mono ?_); rintro e w' ⟨rfl, ⟨nd, rfl⟩⟩; refine ⟨_, rfl, ?_⟩) | (go_at_call 14; (with_reducible refine (alu_Traps.calls (⟨#[116, 108, 116, 117]⟩ : ByteArray) a0 a1 t286 _ A21.out).mono ?_); rintro e w' ⟨rfl, ⟨nd, rfl⟩⟩) | (go_at_call 14; (with_reducible refine (alu_Traps.calls (⟨#[116, 101, 113]⟩ : ByteArray) a0 a1 t287 _ A24.out).mono ?_); rintro e w' ⟨rfl, ⟨nd, rfl⟩⟩) | (go_at_call 9; (with_reducible refine (ferrylaw09_awake.calls  t288 _ ?side1 A26.out).mono ?_); (case side1 => first | with_reducible exact hL | exact Laid.below hL (by repeat (first | (with_reducible first | exact HB.out | apply below_alloc | apply pw_below_drewN | apply below_drew1) | exact HB.out))); rintro e w27 ⟨rfl, hb⟩; have n0_ := Aside0.mk (below_step (by repeat (first | (with_reducible first | exact HB.out | apply below_alloc | apply pw_below_drewN | apply below_drew1) | exact HB.out)) hb); clear HB; have HB := n0_; clear n0_; (try clear hb); (try clear hb2); (try clear hk); (try clear hi)))
                go_ret
                exact ⟨by first | rfl | (simp [errW_none, errW_some] <;> rfl) | (simp [*, errW_none, errW_some] <;> rfl), by repeat (first | (with_reducible first | exact HB.out | apply below_alloc | apply pw_below_drewN | apply below_drew1) | exact HB.out)⟩
              · rw [if_neg c25] at H
                have c25b0 : (t287 == (a0 == a1)) = false := by simpa using c25
                (try (have c25b1 : decide (t287 = (a0 == a1)) = false := by simpa using c25))
                (try (have c25b2 : (t287 == (a0 == a1)) = false := by simpa using c25))
                (try (have c25b3 : ¬ (t287 = (a0 == a1)) := by simpa using c25))
                clear c25
                obtain rfl := Option.some.inj H
                go_wp2_with (first | ((with_reducible refine gate_callee (f := 14) rfl ?_); refine goesL_ (some 56) rfl rfl Tryd.func14 (by kernel_rfl) rfl #[.string (⟨#[116, 108, 116]⟩ : ByteArray), .int .u32 a0, .int .u32 a1] rfl (by (try simp only [List.map_toArray, List.map_cons, List.map_nil]); first | done | rfl | (simp only [List.length_drop, List.length_take]; rfl)) ?_; (with_reducible refine (alu_Traps.calls (⟨#[116, 108, 116]⟩ : ByteArray) a0 a1 t285 _ A19.out).mono ?_); rintro e w' ⟨rfl, ⟨nd, rfl⟩⟩; refine ⟨_, rfl, ?_⟩) | (go_at_call 14; (with_reducible refine (alu_Traps.calls (⟨#[116, 108, 116, 117]⟩ : ByteArray) a0 a1 t286 _ A21.out).mono ?_); rintro e w' ⟨rfl, ⟨nd, rfl⟩⟩) | (go_at_call 14; (with_reducible refine (alu_Traps.calls (⟨#[116, 101, 113]⟩ : ByteArray) a0 a1 t287 _ A24.out).mono ?_); rintro e w' ⟨rfl, ⟨nd, rfl⟩⟩))
                go_ret
                exact ⟨by first | rfl | (simp [errW_none, errW_some] <;> rfl) | (simp [*, errW_none, errW_some] <;> rfl), by repeat (first | (with_reducible first | exact HB.out | apply below_alloc | apply pw_below_drewN | apply below_drew1) | exact HB.out)⟩
            · rw [if_neg c23] at H
              have c23b0 : ((((t273 + t277) % 4294967296) == 1) == (a0 != a1)) = false := by simpa using c23
              (try (have c23bs0 := c23b0; simp only [Int.add_emod_emod, Int.emod_add_emod, Int.sub_emod_emod, Int.emod_sub_emod] at c23bs0))
              (try (have c23b1 : decide ((((t273 + t277) % 4294967296) == 1) = (a0 != a1)) = false := by simpa using c23))
              (try (have c23bs1 := c23b1; simp only [Int.add_emod_emod, Int.emod_add_emod, Int.sub_emod_emod, Int.emod_sub_emod] at c23bs1))
              (try (have c23b2 : ((((t273 + t277) % 4294967296) == 1) == (a0 != a1)) = false := by simpa using c23))
              (try (have c23bs2 := c23b2; simp only [Int.add_emod_emod, Int.emod_add_emod, Int.sub_emod_emod, Int.emod_sub_emod] at c23bs2))
              (try (have c23b3 : ¬ ((((t273 + t277) % 4294967296) == 1) = (a0 != a1)) := by simpa using c23))
              (try (have c23bs3 := c23b3; simp only [Int.add_emod_emod, Int.emod_add_emod, Int.sub_emod_emod, Int.emod_sub_emod] at c23bs3))
              clear c23
              obtain rfl := Option.some.inj H
              go_wp2_with (first | ((with_reducible refine gate_callee (f := 14) rfl ?_); refine goesL_ (some 56) rfl rfl Tryd.func14 (by kernel_rfl) rfl #[.string (⟨#[116, 108, 116]⟩ : ByteArray), .int .u32 a0, .int .u32 a1] rfl (by (try simp only [List.map_toArray, List.map_cons, List.map_nil]); first | done | rfl | (simp only [List.length_drop, List.length_take]; rfl)) ?_; (with_reducible refine (alu_Traps.calls (⟨#[116, 108, 116]⟩ : ByteArray) a0 a1 t285 _ A19.out).mono ?_); rintro e w' ⟨rfl, ⟨nd, rfl⟩⟩; refine ⟨_, rfl, ?_⟩) | (go_at_call 14; (with_reducible refine (alu_Traps.calls (⟨#[116, 108, 116, 117]⟩ : ByteArray) a0 a1 t286 _ A21.out).mono ?_); rintro e w' ⟨rfl, ⟨nd, rfl⟩⟩))
              go_ret
              exact ⟨by first | rfl | (simp [errW_none, errW_some] <;> rfl) | (simp [*, errW_none, errW_some] <;> rfl), by repeat (first | (with_reducible first | exact HB.out | apply below_alloc | apply pw_below_drewN | apply below_drew1) | exact HB.out)⟩
          · rw [if_neg c22] at H
            have c22b0 : (t286 == (t275 == 1)) = false := by simpa using c22
            (try (have c22b1 : decide (t286 = (t275 == 1)) = false := by simpa using c22))
            (try (have c22b2 : (t286 == (t275 == 1)) = false := by simpa using c22))
            (try (have c22b3 : ¬ (t286 = (t275 == 1)) := by simpa using c22))
            clear c22
            obtain rfl := Option.some.inj H
            go_wp2_with (first | ((with_reducible refine gate_callee (f := 14) rfl ?_); refine goesL_ (some 56) rfl rfl Tryd.func14 (by kernel_rfl) rfl #[.string (⟨#[116, 108, 116]⟩ : ByteArray), .int .u32 a0, .int .u32 a1] rfl (by (try simp only [List.map_toArray, List.map_cons, List.map_nil]); first | done | rfl | (simp only [List.length_drop, List.length_take]; rfl)) ?_; (with_reducible refine (alu_Traps.calls (⟨#[116, 108, 116]⟩ : ByteArray) a0 a1 t285 _ A19.out).mono ?_); rintro e w' ⟨rfl, ⟨nd, rfl⟩⟩; refine ⟨_, rfl, ?_⟩) | (go_at_call 14; (with_reducible refine (alu_Traps.calls (⟨#[116, 108, 116, 117]⟩ : ByteArray) a0 a1 t286 _ A21.out).mono ?_); rintro e w' ⟨rfl, ⟨nd, rfl⟩⟩))
            go_ret
            exact ⟨by first | rfl | (simp [errW_none, errW_some] <;> rfl) | (simp [*, errW_none, errW_some] <;> rfl), by repeat (first | (with_reducible first | exact HB.out | apply below_alloc | apply pw_below_drewN | apply below_drew1) | exact HB.out)⟩
        · rw [if_neg c20] at H
          have c20b0 : (t285 == (t273 == 1)) = false := by simpa using c20
          (try (have c20b1 : decide (t285 = (t273 == 1)) = false := by simpa using c20))
          (try (have c20b2 : (t285 == (t273 == 1)) = false := by simpa using c20))
          (try (have c20b3 : ¬ (t285 = (t273 == 1)) := by simpa using c20))
          clear c20
          obtain rfl := Option.some.inj H
          go_wp2_with (first | ((with_reducible refine gate_callee (f := 14) rfl ?_); refine goesL_ (some 56) rfl rfl Tryd.func14 (by kernel_rfl) rfl #[.string (⟨#[116, 108, 116]⟩ : ByteArray), .int .u32 a0, .int .u32 a1] rfl (by (try simp only [List.map_toArray, List.map_cons, List.map_nil]); first | done | rfl | (simp only [List.length_drop, List.length_take]; rfl)) ?_; (with_reducible refine (alu_Traps.calls (⟨#[116, 108, 116]⟩ : ByteArray) a0 a1 t285 _ A19.out).mono ?_); rintro e w' ⟨rfl, ⟨nd, rfl⟩⟩; refine ⟨_, rfl, ?_⟩))
          go_ret
          exact ⟨by first | rfl | (simp [errW_none, errW_some] <;> rfl) | (simp [*, errW_none, errW_some] <;> rfl), by repeat (first | (with_reducible first | exact HB.out | apply below_alloc | apply pw_below_drewN | apply below_drew1) | exact HB.out)⟩

end Go.Proofs.YtnddjndgfaefaaaDoor.F
end
