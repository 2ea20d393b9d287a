import Derived.Below
import Derived.Deep.Draws
import Derived.Deep.AppendLies
import Derived.Maps.AppendAt
import Derived.OwnWalk
import Derived.Laws.BytesArg
import Derived.Laws.MakeOwn
import Derived.Laws.OwnMore
import Derived.Deep.OwnRows
import Derived.Tactics
import Derived.Lib.ConvBytes
import Derived.Laws.Slices
import Derived.WalkKit
import Derived.KernelRfl
import Derived.RowKit3
import Derived.Deep.LoopGhost
import Derived.Deep.QuietTactic
import Derived.BigQuiet
import Derived.WideLaws
import Derived.Deep.DeepCutAuto
import Derived.Deep.CutBlock
import Derived.Deep.RegionHeld3
import Derived.Laws.Rows
import Derived.Lib.AppendStr
import Derived.ArgAppend
import Derived.Laws.IdiomCopy
import Derived.RowKit
import Derived.OrdersHeld
import Derived.Laws.BitsLemmas
import Derived.Laws.StructEq
import Derived.WalkLawsBesides
import Derived.Shelf.Abstract
import Derived.Shelf.RegionOpen
import Derived.RangeFuncRecord
import Derived.OwnWalkIn
import Derived.ProofKit
import Derived.Lib.Hide
import Derived.Shelf.Small.Bits
import Derived.Shelf.LaysM
import Derived.Shelf.Strings.Fields
import Derived.Shelf.Strings.Replace
import Derived.Shelf.Strings.SplitShaped
import Derived.Lib.LaidTab
import Derived.Maps.OwnOps
import Derived.WalkSmall
import Derived.Laws.ResultCell
import Derived.Deep.RegionWith
import Derived.Defers
import Derived.Recover
import Derived.Tactics2
import Derived.Test.YtnddjndgfaefaaaDoorZF0
import Derived.Test.YtnddjndgfaefaaaDoorYA0
import Derived.Test.YtnddjndgfaefaaaDoorYA16HAluDo
import Derived.Test.YtnddjndgfaefaaaDoorYA17FFerrylaw09Of
import Derived.Test.YtnddjndgfaefaaaDoorYA18FFerrylaw09Awake
section
namespace Go.Proofs.YtnddjndgfaefaaaDoor.F
open Go.RowKit Go.Proofs.YtnddjndgfaefaaaDoorW.PrintWords Go.Proofs.YtnddjndgfaefaaaDoorW.PrintLast Go.Proofs.YtnddjndgfaefaaaDoorW.PrintMore
attribute [local go_sem] max2_int min2_int max_two min_two max_three min_three max_four min_four
set_option linter.unusedVariables false
set_option linter.unusedSimpArgs false

def ferrylaw09_AluBack.j0 : Nat → Int → Int → Int → Int → Bool → Int → Bool → Bool → Option (Bool)
  | 0, _, _, _, _, _, _, _, _ => none
  | k + 1, x0, x1, x5, x9, x10, x11, x12, x82 => if x82 = true then (some false) else (if (x10 != ((wrap64 ((wrap64 (wrap32 (x0))) + (wrap64 (wrap32 (x1))))) == (wrap64 (wrap32 (x5))))) = true then (some false) else (if x10 = true then (if x9 = x5 then (if (x10 != x12) = true then (some false) else (if x12 = true then (if x11 = x0 then ((ferrylaw09_awake.f).bind fun t184 => (some t184)) else (some false)) else ((ferrylaw09_awake.f).bind fun t185 => (some t185)))) else (some false)) else (if (x10 != x12) = true then (some false) else (if x12 = true then (if x11 = x0 then ((ferrylaw09_awake.f).bind fun t186 => (some t186)) else (some false)) else ((ferrylaw09_awake.f).bind fun t187 => (some t187))))))
def ferrylaw09_AluBack.f (k : Nat) (a0 : Int) (a1 : Int) : Option (Bool) := (ferrylaw09_of.f (⟨#[97, 100, 100, 117]⟩ : ByteArray) a0 a1).bind fun bt172 => ((ferrylaw09_of.f (⟨#[115, 117, 98, 117]⟩ : ByteArray) bt172.1 a1).bind fun bt174 => ((ferrylaw09_of.f (⟨#[97, 100, 100]⟩ : ByteArray) a0 a1).bind fun bt176 => ((ferrylaw09_of.f (⟨#[115, 117, 98]⟩ : ByteArray) bt172.1 a1).bind fun bt178 => ((ferrylaw09_of.f (⟨#[110, 111, 114]⟩ : ByteArray) a0 a0).bind fun bt180 => ((ferrylaw09_of.f (⟨#[111, 114]⟩ : ByteArray) a0 bt180.1).bind fun bt182 => (if bt172.2 = true then (if bt174.2 = true then (if bt180.2 = true then (if bt182.2 = true then (if bt174.1 = a0 then (if bt182.1 = 4294967295 then (ferrylaw09_AluBack.j0 k a0 a1 bt172.1 bt176.1 bt176.2 bt178.1 bt178.2 ((Go.bits .and .u32 bt180.1 a0) != 0)) else (ferrylaw09_AluBack.j0 k a0 a1 bt172.1 bt176.1 bt176.2 bt178.1 bt178.2 true)) else (ferrylaw09_AluBack.j0 k a0 a1 bt172.1 bt176.1 bt176.2 bt178.1 bt178.2 true)) else (ferrylaw09_AluBack.j0 k a0 a1 bt172.1 bt176.1 bt176.2 bt178.1 bt178.2 true)) else (ferrylaw09_AluBack.j0 k a0 a1 bt172.1 bt176.1 bt176.2 bt178.1 bt178.2 true)) else (ferrylaw09_AluBack.j0 k a0 a1 bt172.1 bt176.1 bt176.2 bt178.1 bt178.2 true)) else (ferrylaw09_AluBack.j0 k a0 a1 bt172.1 bt176.1 bt176.2 bt178.1 bt178.2 true)))))))
set_option maxHeartbeats 8000000 in
set_option maxRecDepth 100000 in
theorem ferrylaw09_AluBack.calls (k : Nat) (a0 : Int) (a1 : Int) (r : Bool) (w : World) (hL : Laid w) (h : ferrylaw09_AluBack.f k a0 a1 = some r) :
    Calls Tryd.prog 3 #[.int .u32 a0, .int .u32 a1] w fun e w' => e = .returned (.bool r) ∧ Below w.heap.size w w' := by
  have HB := Aside0.mk (Below.refl w.heap.size w)
  have H : ((ferrylaw09_of.f (⟨#[97, 100, 100, 117]⟩ : ByteArray) a0 a1).bind fun bt172 => ((ferrylaw09_of.f (⟨#[115, 117, 98, 117]⟩ : ByteArray) bt172.1 a1).bind fun bt174 => ((ferrylaw09_of.f (⟨#[97, 100, 100]⟩ : ByteArray) a0 a1).bind fun bt176 => ((ferrylaw09_of.f (⟨#[115, 117, 98]⟩ : ByteArray) bt172.1 a1).bind fun bt178 => ((ferrylaw09_of.f (⟨#[110, 111, 114]⟩ : ByteArray) a0 a0).bind fun bt180 => ((ferrylaw09_of.f (⟨#[111, 114]⟩ : ByteArray) a0 bt180.1).bind fun bt182 => (if bt172.2 = true then (if bt174.2 = true then (if bt180.2 = true then (if bt182.2 = true then (if bt174.1 = a0 then (if bt182.1 = 4294967295 then (ferrylaw09_AluBack.j0 k a0 a1 bt172.1 bt176.1 bt176.2 bt178.1 bt178.2 ((Go.bits .and .u32 bt180.1 a0) != 0)) else (ferrylaw09_AluBack.j0 k a0 a1 bt172.1 bt176.1 bt176.2 bt178.1 bt178.2 true)) else (ferrylaw09_AluBack.j0 k a0 a1 bt172.1 bt176.1 bt176.2 bt178.1 bt178.2 true)) else (ferrylaw09_AluBack.j0 k a0 a1 bt172.1 bt176.1 bt176.2 bt178.1 bt178.2 true)) else (ferrylaw09_AluBack.j0 k a0 a1 bt172.1 bt176.1 bt176.2 bt178.1 bt178.2 true)) else (ferrylaw09_AluBack.j0 k a0 a1 bt172.1 bt176.1 bt176.2 bt178.1 bt178.2 true)) else (ferrylaw09_AluBack.j0 k a0 a1 bt172.1 bt176.1 bt176.2 bt178.1 bt178.2 true)))))))) = some r := h
  clear h
  replace H := Option.bind_eq_some_iff.mp H
  obtain ⟨⟨t172, t173⟩, A30, H⟩ := H
  replace H : ((ferrylaw09_of.f (⟨#[115, 117, 98, 117]⟩ : ByteArray) t172 a1).bind fun bt174 => ((ferrylaw09_of.f (⟨#[97, 100, 100]⟩ : ByteArray) a0 a1).bind fun bt176 => ((ferrylaw09_of.f (⟨#[115, 117, 98]⟩ : ByteArray) t172 a1).bind fun bt178 => ((ferrylaw09_of.f (⟨#[110, 111, 114]⟩ : ByteArray) a0 a0).bind fun bt180 => ((ferrylaw09_of.f (⟨#[111, 114]⟩ : ByteArray) a0 bt180.1).bind fun bt182 => (if t173 = true then (if bt174.2 = true then (if bt180.2 = true then (if bt182.2 = true then (if bt174.1 = a0 then (if bt182.1 = 4294967295 then (ferrylaw09_AluBack.j0 k a0 a1 t172 bt176.1 bt176.2 bt178.1 bt178.2 ((Go.bits .and .u32 bt180.1 a0) != 0)) else (ferrylaw09_AluBack.j0 k a0 a1 t172 bt176.1 bt176.2 bt178.1 bt178.2 true)) else (ferrylaw09_AluBack.j0 k a0 a1 t172 bt176.1 bt176.2 bt178.1 bt178.2 true)) else (ferrylaw09_AluBack.j0 k a0 a1 t172 bt176.1 bt176.2 bt178.1 bt178.2 true)) else (ferrylaw09_AluBack.j0 k a0 a1 t172 bt176.1 bt176.2 bt178.1 bt178.2 true)) else (ferrylaw09_AluBack.j0 k a0 a1 t172 bt176.1 bt176.2 bt178.1 bt178.2 true)) else (ferrylaw09_AluBack.j0 k a0 a1 t172 bt176.1 bt176.2 bt178.1 bt178.2 true))))))) = some r := H
  have A3 := Aside0.mk A30
  clear A30
  replace H := Option.bind_eq_some_iff.mp H
  obtain ⟨⟨t174, t175⟩, A40, H⟩ := H
  replace H : ((ferrylaw09_of.f (⟨#[97, 100, 100]⟩ : ByteArray) a0 a1).bind fun bt176 => ((ferrylaw09_of.f (⟨#[115, 117, 98]⟩ : ByteArray) t172 a1).bind fun bt178 => ((ferrylaw09_of.f (⟨#[110, 111, 114]⟩ : ByteArray) a0 a0).bind fun bt180 => ((ferrylaw09_of.f (⟨#[111, 114]⟩ : ByteArray) a0 bt180.1).bind fun bt182 => (if t173 = true then (if t175 = true then (if bt180.2 = true then (if bt182.2 = true then (if t174 = a0 then (if bt182.1 = 4294967295 then (ferrylaw09_AluBack.j0 k a0 a1 t172 bt176.1 bt176.2 bt178.1 bt178.2 ((Go.bits .and .u32 bt180.1 a0) != 0)) else (ferrylaw09_AluBack.j0 k a0 a1 t172 bt176.1 bt176.2 bt178.1 bt178.2 true)) else (ferrylaw09_AluBack.j0 k a0 a1 t172 bt176.1 bt176.2 bt178.1 bt178.2 true)) else (ferrylaw09_AluBack.j0 k a0 a1 t172 bt176.1 bt176.2 bt178.1 bt178.2 true)) else (ferrylaw09_AluBack.j0 k a0 a1 t172 bt176.1 bt176.2 bt178.1 bt178.2 true)) else (ferrylaw09_AluBack.j0 k a0 a1 t172 bt176.1 bt176.2 bt178.1 bt178.2 true)) else (ferrylaw09_AluBack.j0 k a0 a1 t172 bt176.1 bt176.2 bt178.1 bt178.2 true)))))) = some r := H
  have A4 := Aside0.mk A40
  clear A40
  replace H := Option.bind_eq_some_iff.mp H
  obtain ⟨⟨t176, t177⟩, A50, H⟩ := H
  replace H : ((ferrylaw09_of.f (⟨#[115, 117, 98]⟩ : ByteArray) t172 a1).bind fun bt178 => ((ferrylaw09_of.f (⟨#[110, 111, 114]⟩ : ByteArray) a0 a0).bind fun bt180 => ((ferrylaw09_of.f (⟨#[111, 114]⟩ : ByteArray) a0 bt180.1).bind fun bt182 => (if t173 = true then (if t175 = true then (if bt180.2 = true then (if bt182.2 = true then (if t174 = a0 then (if bt182.1 = 4294967295 then (ferrylaw09_AluBack.j0 k a0 a1 t172 t176 t177 bt178.1 bt178.2 ((Go.bits .and .u32 bt180.1 a0) != 0)) else (ferrylaw09_AluBack.j0 k a0 a1 t172 t176 t177 bt178.1 bt178.2 true)) else (ferrylaw09_AluBack.j0 k a0 a1 t172 t176 t177 bt178.1 bt178.2 true)) else (ferrylaw09_AluBack.j0 k a0 a1 t172 t176 t177 bt178.1 bt178.2 true)) else (ferrylaw09_AluBack.j0 k a0 a1 t172 t176 t177 bt178.1 bt178.2 true)) else (ferrylaw09_AluBack.j0 k a0 a1 t172 t176 t177 bt178.1 bt178.2 true)) else (ferrylaw09_AluBack.j0 k a0 a1 t172 t176 t177 bt178.1 bt178.2 true))))) = some r := H
  have A5 := Aside0.mk A50
  clear A50
  replace H := Option.bind_eq_some_iff.mp H
  obtain ⟨⟨t178, t179⟩, A60, H⟩ := H
  replace H : ((ferrylaw09_of.f (⟨#[110, 111, 114]⟩ : ByteArray) a0 a0).bind fun bt180 => ((ferrylaw09_of.f (⟨#[111, 114]⟩ : ByteArray) a0 bt180.1).bind fun bt182 => (if t173 = true then (if t175 = true then (if bt180.2 = true then (if bt182.2 = true then (if t174 = a0 then (if bt182.1 = 4294967295 then (ferrylaw09_AluBack.j0 k a0 a1 t172 t176 t177 t178 t179 ((Go.bits .and .u32 bt180.1 a0) != 0)) else (ferrylaw09_AluBack.j0 k a0 a1 t172 t176 t177 t178 t179 true)) else (ferrylaw09_AluBack.j0 k a0 a1 t172 t176 t177 t178 t179 true)) else (ferrylaw09_AluBack.j0 k a0 a1 t172 t176 t177 t178 t179 true)) else (ferrylaw09_AluBack.j0 k a0 a1 t172 t176 t177 t178 t179 true)) else (ferrylaw09_AluBack.j0 k a0 a1 t172 t176 t177 t178 t179 true)) else (ferrylaw09_AluBack.j0 k a0 a1 t172 t176 t177 t178 t179 true)))) = some r := H
  have A6 := Aside0.mk A60
  clear A60
  replace H := Option.bind_eq_some_iff.mp H
  obtain ⟨⟨t180, t181⟩, A70, H⟩ := H
  replace H : ((ferrylaw09_of.f (⟨#[111, 114]⟩ : ByteArray) a0 t180).bind fun bt182 => (if t173 = true then (if t175 = true then (if t181 = true then (if bt182.2 = true then (if t174 = a0 then (if bt182.1 = 4294967295 then (ferrylaw09_AluBack.j0 k a0 a1 t172 t176 t177 t178 t179 ((Go.bits .and .u32 t180 a0) != 0)) else (ferrylaw09_AluBack.j0 k a0 a1 t172 t176 t177 t178 t179 true)) else (ferrylaw09_AluBack.j0 k a0 a1 t172 t176 t177 t178 t179 true)) else (ferrylaw09_AluBack.j0 k a0 a1 t172 t176 t177 t178 t179 true)) else (ferrylaw09_AluBack.j0 k a0 a1 t172 t176 t177 t178 t179 true)) else (ferrylaw09_AluBack.j0 k a0 a1 t172 t176 t177 t178 t179 true)) else (ferrylaw09_AluBack.j0 k a0 a1 t172 t176 t177 t178 t179 true))) = some r := H
  have A7 := Aside0.mk A70
  clear A70
  replace H := Option.bind_eq_some_iff.mp H
  obtain ⟨⟨t182, t183⟩, A80, H⟩ := H
  replace H : (if t173 = true then (if t175 = true then (if t181 = true then (if t183 = true then (if t174 = a0 then (if t182 = 4294967295 then (ferrylaw09_AluBack.j0 k a0 a1 t172 t176 t177 t178 t179 ((Go.bits .and .u32 t180 a0) != 0)) else (ferrylaw09_AluBack.j0 k a0 a1 t172 t176 t177 t178 t179 true)) else (ferrylaw09_AluBack.j0 k a0 a1 t172 t176 t177 t178 t179 true)) else (ferrylaw09_AluBack.j0 k a0 a1 t172 t176 t177 t178 t179 true)) else (ferrylaw09_AluBack.j0 k a0 a1 t172 t176 t177 t178 t179 true)) else (ferrylaw09_AluBack.j0 k a0 a1 t172 t176 t177 t178 t179 true)) else (ferrylaw09_AluBack.j0 k a0 a1 t172 t176 t177 t178 t179 true)) = some r := H
  have A8 := Aside0.mk A80
  clear A80
  have HC9 := Aside0.mk H
  clear H
  go_enter Tryd.func3, Tryd.ntmps3
  go_upto_region 7 with (first | ((with_reducible refine gate_callee (f := 8) rfl ?_); refine goesL_ (some 21) rfl rfl Tryd.func8 (by kernel_rfl) rfl #[.string (⟨#[97, 100, 100, 117]⟩ : ByteArray), .int .u32 a0, .int .u32 a1] rfl (by (try simp only [List.map_toArray, List.map_cons, List.map_nil]); first | done | rfl | (simp only [List.length_drop, List.length_take]; rfl)) ?_; (with_reducible refine (ferrylaw09_of.calls (⟨#[97, 100, 100, 117]⟩ : ByteArray) a0 a1 t172 t173 _ ?side1 A3.out).mono ?_); (case side1 => first | with_reducible exact hL | exact Laid.below hL (by repeat (first | (with_reducible first | exact HB.out | apply below_alloc | apply pw_below_drewN | apply below_drew1) | exact HB.out))); rintro e w10 ⟨rfl, hb⟩; refine ⟨_, rfl, ?_⟩; have n0_ := Aside0.mk (below_step (by repeat (first | (with_reducible first | exact HB.out | apply below_alloc | apply pw_below_drewN | apply below_drew1) | exact HB.out)) hb); clear HB; have HB := n0_; clear n0_; (try clear hb); (try clear hb2); (try clear hk); (try clear hi)) | ((with_reducible refine gate_callee (f := 8) rfl ?_); refine goesL_ (some 27) rfl rfl Tryd.func8 (by kernel_rfl) rfl #[.string (⟨#[115, 117, 98, 117]⟩ : ByteArray), .int .u32 t172, .int .u32 a1] rfl (by (try simp only [List.map_toArray, List.map_cons, List.map_nil]); first | done | rfl | (simp only [List.length_drop, List.length_take]; rfl)) ?_; (with_reducible refine (ferrylaw09_of.calls (⟨#[115, 117, 98, 117]⟩ : ByteArray) t172 a1 t174 t175 _ ?side1 A4.out).mono ?_); (case side1 => first | with_reducible exact hL | exact Laid.below hL (by repeat (first | (with_reducible first | exact HB.out | apply below_alloc | apply pw_below_drewN | apply below_drew1) | exact HB.out))); rintro e w11 ⟨rfl, hb⟩; refine ⟨_, rfl, ?_⟩; have n0_ := Aside0.mk (below_step (by repeat (first | (with_reducible first | exact HB.out | apply below_alloc | apply pw_below_drewN | apply below_drew1) | exact HB.out)) hb); clear HB; have HB := n0_; clear n0_; (try clear hb); (try clear hb2); (try clear hk); (try clear hi)) | ((with_reducible refine gate_callee (f := 8) rfl ?_); refine goesL_ (some 33) rfl rfl Tryd.func8 (by kernel_rfl) rfl #[.string (⟨#[97, 100, 100]⟩ : ByteArray), .int .u32 a0, .int .u32 a1] rfl (by (try simp only [List.map_toArray, List.map_cons, List.map_nil]); first | done | rfl | (simp only [List.length_drop, List.length_take]; rfl)) ?_; (with_reducible refine (ferrylaw09_of.calls (⟨#[97, 100, 100]⟩ : ByteArray) a0 a1 t176 t177 _ ?side1 A5.out).mono ?_); (case side1 => first | with_reducible exact hL | exact Laid.below hL (by repeat (first | (with_reducible first | exact HB.out | apply below_alloc | apply pw_below_drewN | apply below_drew1) | exact HB.out))); rintro e w12 ⟨rfl, hb⟩; refine ⟨_, rfl, ?_⟩; have n0_ := Aside0.mk (below_step (by repeat (first | (with_reducible first | exact HB.out | apply below_alloc | apply pw_below_drewN | apply below_drew1) | exact HB.out)) hb); clear HB; have HB := n0_; clear n0_; (try clear hb); (try clear hb2); (try clear hk); (try clear hi)) | ((with_reducible refine gate_callee (f := 8) rfl ?_); refine goesL_ (some 39) rfl rfl Tryd.func8 (by kernel_rfl) rfl #[.string (⟨#[115, 117, 98]⟩ : ByteArray), .int .u32 t172, .int .u32 a1] rfl (by (try simp only [List.map_toArray, List.map_cons, List.map_nil]); first | done | rfl | (simp only [List.length_drop, List.length_take]; rfl)) ?_; (with_reducible refine (ferrylaw09_of.calls (⟨#[115, 117, 98]⟩ : ByteArray) t172 a1 t178 t179 _ ?side1 A6.out).mono ?_); (case side1 => first | with_reducible exact hL | exact Laid.below hL (by repeat (first | (with_reducible first | exact HB.out | apply below_alloc | apply pw_below_drewN | apply below_drew1) | exact HB.out))); rintro e w13 ⟨rfl, hb⟩; refine ⟨_, rfl, ?_⟩; have n0_ := Aside0.mk (below_step (by repeat (first | (with_reducible first | exact HB.out | apply below_alloc | apply pw_below_drewN | apply below_drew1) | exact HB.out)) hb); clear HB; have HB := n0_; clear n0_; (try clear hb); (try clear hb2); (try clear hk); (try clear hi)) | ((with_reducible refine gate_callee (f := 8) rfl ?_); refine goesL_ (some 45) rfl rfl Tryd.func8 (by kernel_rfl) rfl #[.string (⟨#[110, 111, 114]⟩ : ByteArray), .int .u32 a0, .int .u32 a0] rfl (by (try simp only [List.map_toArray, List.map_cons, List.map_nil]); first | done | rfl | (simp only [List.length_drop, List.length_take]; rfl)) ?_; (with_reducible refine (ferrylaw09_of.calls (⟨#[110, 111, 114]⟩ : ByteArray) a0 a0 t180 t181 _ ?side1 A7.out).mono ?_); (case side1 => first | with_reducible exact hL | exact Laid.below hL (by repeat (first | (with_reducible first | exact HB.out | apply below_alloc | apply pw_below_drewN | apply below_drew1) | exact HB.out))); rintro e w14 ⟨rfl, hb⟩; refine ⟨_, rfl, ?_⟩; have n0_ := Aside0.mk (below_step (by repeat (first | (with_reducible first | exact HB.out | apply below_alloc | apply pw_below_drewN | apply below_drew1) | exact HB.out)) hb); clear HB; have HB := n0_; clear n0_; (try clear hb); (try clear hb2); (try clear hk); (try clear hi)) | ((with_reducible refine gate_callee (f := 8) rfl ?_); refine goesL_ (some 51) rfl rfl Tryd.func8 (by kernel_rfl) rfl #[.string (⟨#[111, 114]⟩ : ByteArray), .int .u32 a0, .int .u32 t180] rfl (by (try simp only [List.map_toArray, List.map_cons, List.map_nil]); first | done | rfl | (simp only [List.length_drop, List.length_take]; rfl)) ?_; (with_reducible refine (ferrylaw09_of.calls (⟨#[111, 114]⟩ : ByteArray) a0 t180 t182 t183 _ ?side1 A8.out).mono ?_); (case side1 => first | with_reducible exact hL | exact Laid.below hL (by repeat (first | (with_reducible first | exact HB.out | apply below_alloc | apply pw_below_drewN | apply below_drew1) | exact HB.out))); rintro e w15 ⟨rfl, hb⟩; refine ⟨_, rfl, ?_⟩; have n0_ := Aside0.mk (below_step (by repeat (first | (with_reducible first | exact HB.out | apply below_alloc | apply pw_below_drewN | apply below_drew1) | exact HB.out)) hb); clear HB; have HB := n0_; clear n0_; (try clear hb); (try clear hb2); (try clear hk); (try clear hi)))
  (try simp only [Act.put, List.setIfInBounds_toArray, List.set_cons_zero, List.set_cons_succ])
  go_cut [82] (fun v82 wc => ∃ (kq : Nat) (x82_8 : Bool), v82 = .bool x82_8 ∧ Aside0 (ferrylaw09_AluBack.j0 kq a0 a1 t172 t176 t177 t178 t179 x82_8 = some r) ∧ Aside0 (kq ≤ k) ∧ Aside0 (Below w.heap.size w wc))
  case first =>
    have H := HC9.out
    clear HC9
    by_cases c16 : t173 = true
    · subst c16
      have H1 : (if t175 = true then (if t181 = true then (if t183 = true then (if t174 = a0 then (if t182 = 4294967295 then (ferrylaw09_AluBack.j0 k a0 a1 t172 t176 t177 t178 t179 ((Go.bits .and .u32 t180 a0) != 0)) else (ferrylaw09_AluBack.j0 k a0 a1 t172 t176 t177 t178 t179 true)) else (ferrylaw09_AluBack.j0 k a0 a1 t172 t176 t177 t178 t179 true)) else (ferrylaw09_AluBack.j0 k a0 a1 t172 t176 t177 t178 t179 true)) else (ferrylaw09_AluBack.j0 k a0 a1 t172 t176 t177 t178 t179 true)) else (ferrylaw09_AluBack.j0 k a0 a1 t172 t176 t177 t178 t179 true)) = some r := by rw [if_pos rfl] at H; exact H
      clear H
      have H := H1
      clear H1
      by_cases c17 : t175 = true
      · subst c17
        have H1 : (if t181 = true then (if t183 = true then (if t174 = a0 then (if t182 = 4294967295 then (ferrylaw09_AluBack.j0 k a0 a1 t172 t176 t177 t178 t179 ((Go.bits .and .u32 t180 a0) != 0)) else (ferrylaw09_AluBack.j0 k a0 a1 t172 t176 t177 t178 t179 true)) else (ferrylaw09_AluBack.j0 k a0 a1 t172 t176 t177 t178 t179 true)) else (ferrylaw09_AluBack.j0 k a0 a1 t172 t176 t177 t178 t179 true)) else (ferrylaw09_AluBack.j0 k a0 a1 t172 t176 t177 t178 t179 true)) = some r := by rw [if_pos rfl] at H; exact H
        clear H
        have H := H1
        clear H1
        by_cases c18 : t181 = true
        · subst c18
          have H1 : (if t183 = true then (if t174 = a0 then (if t182 = 4294967295 then (ferrylaw09_AluBack.j0 k a0 a1 t172 t176 t177 t178 t179 ((Go.bits .and .u32 t180 a0) != 0)) else (ferrylaw09_AluBack.j0 k a0 a1 t172 t176 t177 t178 t179 true)) else (ferrylaw09_AluBack.j0 k a0 a1 t172 t176 t177 t178 t179 true)) else (ferrylaw09_AluBack.j0 k a0 a1 t172 t176 t177 t178 t179 true)) = some r := by rw [if_pos rfl] at H; exact H
          clear H
          have H := H1
          clear H1
          by_cases c19 : t183 = true
          · subst c19
            have H1 : (if t174 = a0 then (if t182 = 4294967295 then (ferrylaw09_AluBack.j0 k a0 a1 t172 t176 t177 t178 t179 ((Go.bits .and .u32 t180 a0) != 0)) else (ferrylaw09_AluBack.j0 k a0 a1 t172 t176 t177 t178 t179 true)) else (ferrylaw09_AluBack.j0 k a0 a1 t172 t176 t177 t178 t179 true)) = some r := by rw [if_pos rfl] at H; exact H
            clear H
            have H := H1
            clear H1
            by_cases c20 : t174 = a0
            · rw [if_pos c20] at H
              have c20b0 : (t174 == a0) = true := beq_iff_eq.mpr c20
              have c20b1 : (t174 != a0) = false := bne_eq_false_iff_eq.mpr c20
              clear c20
              (first | rw [c20b0] | (simp only [i64_w, i32_w]; rw [c20b0]) | skip)
              by_cases c21 : t182 = 4294967295
              · rw [if_pos c21] at H
                have c21b0 : (t182 == 4294967295) = true := beq_iff_eq.mpr c21
                have c21b1 : (t182 != 4294967295) = false := bne_eq_false_iff_eq.mpr c21
                clear c21
                have H' := Aside0.mk H
                clear H
                go_wp2
                go_meet
                case rel => exact ⟨_, (((Go.bits .and .u32 t180 a0) != 0)), (by first | rfl | (simp; done) | (simp [*]; done)), H', ⟨by first | omega | exact Nat.le_refl _⟩, ⟨by repeat (first | (with_reducible first | exact HB.out | apply below_alloc | apply pw_below_drewN | apply below_drew1) | exact HB.out)⟩⟩
              · rw [if_neg c21] at H
                have c21b0 : (t182 == 4294967295) = false := beq_eq_false_iff_ne.mpr c21
                have c21b1 : (t182 != 4294967295) = true := bne_iff_ne.mpr c21
                have H' := Aside0.mk H
                clear H
                go_wp2
                go_meet
                case rel => exact ⟨_, (true), (by first | rfl | (simp; done) | (simp [*]; done)), H', ⟨by first | omega | exact Nat.le_refl _⟩, ⟨by repeat (first | (with_reducible first | exact HB.out | apply below_alloc | apply pw_below_drewN | apply below_drew1) | exact HB.out)⟩⟩
            · rw [if_neg c20] at H
              have c20b0 : (t174 == a0) = false := beq_eq_false_iff_ne.mpr c20
              have c20b1 : (t174 != a0) = true := bne_iff_ne.mpr c20
              (first | rw [c20b0] | (simp only [i64_w, i32_w]; rw [c20b0]) | skip)
              have H' := Aside0.mk H
              clear H
              go_wp2
              go_meet
              case rel => exact ⟨_, (true), (by first | rfl | (simp; done) | (simp [*]; done)), H', ⟨by first | omega | exact Nat.le_refl _⟩, ⟨by repeat (first | (with_reducible first | exact HB.out | apply below_alloc | apply pw_below_drewN | apply below_drew1) | exact HB.out)⟩⟩
          · replace c19 := Bool.eq_false_iff.mpr c19
            subst c19
            have H1 : (ferrylaw09_AluBack.j0 k a0 a1 t172 t176 t177 t178 t179 true) = some r := by rw [if_neg (show ¬ (false = true) by decide)] at H; exact H
            clear H
            have H := H1
            clear H1
            have H' := Aside0.mk H
            clear H
            go_wp2
            go_meet
            case rel => exact ⟨_, (true), (by first | rfl | (simp; done) | (simp [*]; done)), H', ⟨by first | omega | exact Nat.le_refl _⟩, ⟨by repeat (first | (with_reducible first | exact HB.out | apply below_alloc | apply pw_below_drewN | apply below_drew1) | exact HB.out)⟩⟩
        · replace c18 := Bool.eq_false_iff.mpr c18
          subst c18
          have H1 : (ferrylaw09_AluBack.j0 k a0 a1 t172 t176 t177 t178 t179 true) = some r := by rw [if_neg (show ¬ (false = true) by decide)] at H; exact H
          clear H
          have H := H1
          clear H1
          have H' := Aside0.mk H
          clear H
          go_wp2
          go_meet
          case rel => exact ⟨_, (true), (by first | rfl | (simp; done) | (simp [*]; done)), H', ⟨by first | omega | exact Nat.le_refl _⟩, ⟨by repeat (first | (with_reducible first | exact HB.out | apply below_alloc | apply pw_below_drewN | apply below_drew1) | exact HB.out)⟩⟩
      · replace c17 := Bool.eq_false_iff.mpr c17
        subst c17
        have H1 : (ferrylaw09_AluBack.j0 k a0 a1 t172 t176 t177 t178 t179 true) = some r := by rw [if_neg (show ¬ (false = true) by decide)] at H; exact H
        clear H
        have H := H1
        clear H1
        have H' := Aside0.mk H
        clear H
        go_wp2
        go_meet
        case rel => exact ⟨_, (true), (by first | rfl | (simp; done) | (simp [*]; done)), H', ⟨by first | omega | exact Nat.le_refl _⟩, ⟨by repeat (first | (with_reducible first | exact HB.out | apply below_alloc | apply pw_below_drewN | apply below_drew1) | exact HB.out)⟩⟩
    · replace c16 := Bool.eq_false_iff.mpr c16
      subst c16
      have H1 : (ferrylaw09_AluBack.j0 k a0 a1 t172 t176 t177 t178 t179 true) = some r := by rw [if_neg (show ¬ (false = true) by decide)] at H; exact H
      clear H
      have H := H1
      clear H1
      have H' := Aside0.mk H
      clear H
      go_wp2
      go_meet
      case rel => exact ⟨_, (true), (by first | rfl | (simp; done) | (simp [*]; done)), H', ⟨by first | omega | exact Nat.le_refl _⟩, ⟨by repeat (first | (with_reducible first | exact HB.out | apply below_alloc | apply pw_below_drewN | apply below_drew1) | exact HB.out)⟩⟩
  case rest =>
    clear HC9
    try clear c1
    try clear c2
    try clear p2
    try clear c3
    try clear c8
    try clear c16
    try clear c17
    try clear c18
    try clear c19
    try clear c20
    try clear c20b0
    try clear c20b1
    try clear c21
    try clear c21b0
    try clear c21b1
    obtain ⟨kq, x82_8, rfl, HA, HJ8, HB⟩ := hcut
    cases kq with
    | zero => exact absurd HA.out (by simp [ferrylaw09_AluBack.j0])
    | succ kj8 =>
      have H := HA.out
      clear HA
      simp only [ferrylaw09_AluBack.j0] at H
      by_cases c22 : x82_8 = true
      · subst c22
        have H1 : (some false) = some r := by rw [if_pos rfl] at H; exact H
        clear H
        have H := H1
        clear H1
        obtain rfl := Option.some.inj H
        go_wp2
        go_ret
        exact ⟨by first | rfl | (simp [errW_none, errW_some] <;> rfl) | (simp [*, errW_none, errW_some] <;> rfl), by repeat (first | (with_reducible first | exact HB.out | apply below_alloc | apply pw_below_drewN | apply below_drew1) | exact HB.out)⟩
      · replace c22 := Bool.eq_false_iff.mpr c22
        subst c22
        have H1 : (if (t177 != ((wrap64 ((wrap64 (wrap32 (a0))) + (wrap64 (wrap32 (a1))))) == (wrap64 (wrap32 (t172))))) = true then (some false) else (if t177 = true then (if t176 = t172 then (if (t177 != t179) = true then (some false) else (if t179 = true then (if t178 = a0 then ((ferrylaw09_awake.f).bind fun t184 => (some t184)) else (some false)) else ((ferrylaw09_awake.f).bind fun t185 => (some t185)))) else (some false)) else (if (t177 != t179) = true then (some false) else (if t179 = true then (if t178 = a0 then ((ferrylaw09_awake.f).bind fun t186 => (some t186)) else (some false)) else ((ferrylaw09_awake.f).bind fun t187 => (some t187)))))) = some r := by rw [if_neg (show ¬ (false = true) by decide)] at H; exact H
        clear H
        have H := H1
        clear H1
        by_cases c23 : (t177 != ((wrap64 ((wrap64 (wrap32 (a0))) + (wrap64 (wrap32 (a1))))) == (wrap64 (wrap32 (t172))))) = true
        · rw [if_pos c23] at H
          have c23b0 : (t177 != ((wrap64 ((wrap64 (wrap32 (a0))) + (wrap64 (wrap32 (a1))))) == (wrap64 (wrap32 (t172))))) = true := c23
          (try (have c23b1 : decide (t177 = ((wrap64 ((wrap64 (wrap32 (a0))) + (wrap64 (wrap32 (a1))))) == (wrap64 (wrap32 (t172))))) = false := by simpa using c23))
          (try (have c23b2 : (t177 == ((wrap64 ((wrap64 (wrap32 (a0))) + (wrap64 (wrap32 (a1))))) == (wrap64 (wrap32 (t172))))) = false := by simpa using c23))
          (try (have c23b3 : ¬ (t177 = ((wrap64 ((wrap64 (wrap32 (a0))) + (wrap64 (wrap32 (a1))))) == (wrap64 (wrap32 (t172))))) := by simpa using c23))
          clear c23
          obtain rfl := Option.some.inj H
          go_wp2
          go_ret
          exact ⟨by first | rfl | (simp [errW_none, errW_some] <;> rfl) | (simp [*, errW_none, errW_some] <;> rfl), by repeat (first | (with_reducible first | exact HB.out | apply below_alloc | apply pw_below_drewN | apply below_drew1) | exact HB.out)⟩
        · rw [if_neg c23] at H
          have c23b0 : (t177 != ((wrap64 ((wrap64 (wrap32 (a0))) + (wrap64 (wrap32 (a1))))) == (wrap64 (wrap32 (t172))))) = false := by simpa using c23
          (try (have c23b1 : decide (t177 = ((wrap64 ((wrap64 (wrap32 (a0))) + (wrap64 (wrap32 (a1))))) == (wrap64 (wrap32 (t172))))) = true := by simpa using c23))
          (try (have c23b2 : (t177 == ((wrap64 ((wrap64 (wrap32 (a0))) + (wrap64 (wrap32 (a1))))) == (wrap64 (wrap32 (t172))))) = true := by simpa using c23))
          clear c23
          by_cases c24 : t177 = true
          · subst c24
            have H1 : (if t176 = t172 then (if (true != t179) = true then (some false) else (if t179 = true then (if t178 = a0 then ((ferrylaw09_awake.f).bind fun t184 => (some t184)) else (some false)) else ((ferrylaw09_awake.f).bind fun t185 => (some t185)))) else (some false)) = some r := by rw [if_pos rfl] at H; exact H
            clear H
            have H := H1
            clear H1
            by_cases c25 : t176 = t172
            · rw [if_pos c25] at H
              have c25b0 : (t176 == t172) = true := beq_iff_eq.mpr c25
              have c25b1 : (t176 != t172) = false := bne_eq_false_iff_eq.mpr c25
              clear c25
              by_cases c26 : (true != t179) = true
              · rw [if_pos c26] at H
                have c26b0 : (true != t179) = true := c26
                (try (have c26b1 : decide (true = t179) = false := by simpa using c26))
                (try (have c26b2 : (true == t179) = false := by simpa using c26))
                (try (have c26b3 : ¬ (true = t179) := by simpa using c26))
                clear c26
                obtain rfl := Option.some.inj H
                go_wp2
                go_ret
                exact ⟨by first | rfl | (simp [errW_none, errW_some] <;> rfl) | (simp [*, errW_none, errW_some] <;> rfl), by repeat (first | (with_reducible first | exact HB.out | apply below_alloc | apply pw_below_drewN | apply below_drew1) | exact HB.out)⟩
              · rw [if_neg c26] at H
                have c26b0 : (true != t179) = false := by simpa using c26
                (try (have c26b1 : decide (true = t179) = true := by simpa using c26))
                (try (have c26b2 : (true == t179) = true := by simpa using c26))
                clear c26
                by_cases c27 : t179 = true
                · subst c27
                  have H1 : (if t178 = a0 then ((ferrylaw09_awake.f).bind fun t184 => (some t184)) else (some false)) = some r := by rw [if_pos rfl] at H; exact H
                  clear H
                  have H := H1
                  clear H1
                  by_cases c28 : t178 = a0
                  · rw [if_pos c28] at H
                    have c28b0 : (t178 == a0) = true := beq_iff_eq.mpr c28
                    have c28b1 : (t178 != a0) = false := bne_eq_false_iff_eq.mpr c28
                    clear c28
                    replace H := Option.bind_eq_some_iff.mp H
                    obtain ⟨t184, A290, H⟩ := H
                    replace H : (some t184) = some r := H
                    have A29 := Aside0.mk A290
                    clear A290
                    obtain rfl := Option.some.inj H
                    go_wp2_with (first | (go_at_call 9; (with_reducible refine (ferrylaw09_awake.calls  t184 _ ?side1 A29.out).mono ?_); (case side1 => first | with_reducible exact hL | exact Laid.below hL (by repeat (first | (with_reducible first | exact HB.out | apply below_alloc | apply pw_below_drewN | apply below_drew1) | exact HB.out))); rintro e w30 ⟨rfl, hb⟩; have n0_ := Aside0.mk (below_step (by repeat (first | (with_reducible first | exact HB.out | apply below_alloc | apply pw_below_drewN | apply below_drew1) | exact HB.out)) hb); clear HB; have HB := n0_; clear n0_; (try clear hb); (try clear hb2); (try clear hk); (try clear hi)))
                    go_ret
                    exact ⟨by first | rfl | (simp [errW_none, errW_some] <;> rfl) | (simp [*, errW_none, errW_some] <;> rfl), by repeat (first | (with_reducible first | exact HB.out | apply below_alloc | apply pw_below_drewN | apply below_drew1) | exact HB.out)⟩
                  · rw [if_neg c28] at H
                    have c28b0 : (t178 == a0) = false := beq_eq_false_iff_ne.mpr c28
                    have c28b1 : (t178 != a0) = true := bne_iff_ne.mpr c28
                    obtain rfl := Option.some.inj H
                    go_wp2
                    go_ret
                    exact ⟨by first | rfl | (simp [errW_none, errW_some] <;> rfl) | (simp [*, errW_none, errW_some] <;> rfl), by repeat (first | (with_reducible first | exact HB.out | apply below_alloc | apply pw_below_drewN | apply below_drew1) | exact HB.out)⟩
                · replace c27 := Bool.eq_false_iff.mpr c27
                  subst c27
                  have H1 : ((ferrylaw09_awake.f).bind fun t185 => (some t185)) = some r := by rw [if_neg (show ¬ (false = true) by decide)] at H; exact H
                  clear H
                  have H := H1
                  clear H1
                  replace H := Option.bind_eq_some_iff.mp H
                  obtain ⟨t185, A310, H⟩ := H
                  replace H : (some t185) = some r := H
                  have A31 := Aside0.mk A310
                  clear A310
                  obtain rfl := Option.some.inj H
                  go_wp2_with (first | (go_at_call 9; (with_reducible refine (ferrylaw09_awake.calls  t185 _ ?side1 A31.out).mono ?_); (case side1 => first | with_reducible exact hL | exact Laid.below hL (by repeat (first | (with_reducible first | exact HB.out | apply below_alloc | apply pw_below_drewN | apply below_drew1) | exact HB.out))); rintro e w32 ⟨rfl, hb⟩; have n0_ := Aside0.mk (below_step (by repeat (first | (with_reducible first | exact HB.out | apply below_alloc | apply pw_below_drewN | apply below_drew1) | exact HB.out)) hb); clear HB; have HB := n0_; clear n0_; (try clear hb); (try clear hb2); (try clear hk); (try clear hi)))
                  go_ret
                  exact ⟨by first | rfl | (simp [errW_none, errW_some] <;> rfl) | (simp [*, errW_none, errW_some] <;> rfl), by repeat (first | (with_reducible first | exact HB.out | apply below_alloc | apply pw_below_drewN | apply below_drew1) | exact HB.out)⟩
            · rw [if_neg c25] at H
              have c25b0 : (t176 == t172) = false := beq_eq_false_iff_ne.mpr c25
              have c25b1 : (t176 != t172) = true := bne_iff_ne.mpr c25
              obtain rfl := Option.some.inj H
              go_wp2
              go_ret
              exact ⟨by first | rfl | (simp [errW_none, errW_some] <;> rfl) | (simp [*, errW_none, errW_some] <;> rfl), by repeat (first | (with_reducible first | exact HB.out | apply below_alloc | apply pw_below_drewN | apply below_drew1) | exact HB.out)⟩
          · replace c24 := Bool.eq_false_iff.mpr c24
            subst c24
            have H1 : (if (false != t179) = true then (some false) else (if t179 = true then (if t178 = a0 then ((ferrylaw09_awake.f).bind fun t186 => (some t186)) else (some false)) else ((ferrylaw09_awake.f).bind fun t187 => (some t187)))) = some r := by rw [if_neg (show ¬ (false = true) by decide)] at H; exact H
            clear H
            have H := H1
            clear H1
            by_cases c33 : (false != t179) = true
            · rw [if_pos c33] at H
              have c33b0 : (false != t179) = true := c33
              (try (have c33b1 : decide (false = t179) = false := by simpa using c33))
              (try (have c33b2 : (false == t179) = false := by simpa using c33))
              (try (have c33b3 : ¬ (false = t179) := by simpa using c33))
              clear c33
              obtain rfl := Option.some.inj H
              go_wp2
              go_ret
              exact ⟨by first | rfl | (simp [errW_none, errW_some] <;> rfl) | (simp [*, errW_none, errW_some] <;> rfl), by repeat (first | (with_reducible first | exact HB.out | apply below_alloc | apply pw_below_drewN | apply below_drew1) | exact HB.out)⟩
            · rw [if_neg c33] at H
              have c33b0 : (false != t179) = false := by simpa using c33
              (try (have c33b1 : decide (false = t179) = true := by simpa using c33))
              (try (have c33b2 : (false == t179) = true := by simpa using c33))
              clear c33
              by_cases c34 : t179 = true
              · subst c34
                have H1 : (if t178 = a0 then ((ferrylaw09_awake.f).bind fun t186 => (some t186)) else (some false)) = some r := by rw [if_pos rfl] at H; exact H
                clear H
                have H := H1
                clear H1
                by_cases c35 : t178 = a0
                · rw [if_pos c35] at H
                  have c35b0 : (t178 == a0) = true := beq_iff_eq.mpr c35
                  have c35b1 : (t178 != a0) = false := bne_eq_false_iff_eq.mpr c35
                  clear c35
                  replace H := Option.bind_eq_some_iff.mp H
                  obtain ⟨t186, A360, H⟩ := H
                  replace H : (some t186) = some r := H
                  have A36 := Aside0.mk A360
                  clear A360
                  obtain rfl := Option.some.inj H
                  go_wp2_with (first | (go_at_call 9; (with_reducible refine (ferrylaw09_awake.calls  t186 _ ?side1 A36.out).mono ?_); (case side1 => first | with_reducible exact hL | exact Laid.below hL (by repeat (first | (with_reducible first | exact HB.out | apply below_alloc | apply pw_below_drewN | apply below_drew1) | exact HB.out))); rintro e w37 ⟨rfl, hb⟩; have n0_ := Aside0.mk (below_step (by repeat (first | (with_reducible first | exact HB.out | apply below_alloc | apply pw_below_drewN | apply below_drew1) | exact HB.out)) hb); clear HB; have HB := n0_; clear n0_; (try clear hb); (try clear hb2); (try clear hk); (try clear hi)))
                  go_ret
                  exact ⟨by first | rfl | (simp [errW_none, errW_some] <;> rfl) | (simp [*, errW_none, errW_some] <;> rfl), by repeat (first | (with_reducible first | exact HB.out | apply below_alloc | apply pw_below_drewN | apply below_drew1) | exact HB.out)⟩
                · rw [if_neg c35] at H
                  have c35b0 : (t178 == a0) = false := beq_eq_false_iff_ne.mpr c35
                  have c35b1 : (t178 != a0) = true := bne_iff_ne.mpr c35
                  obtain rfl := Option.some.inj H
                  go_wp2
                  go_ret
                  exact ⟨by first | rfl | (simp [errW_none, errW_some] <;> rfl) | (simp [*, errW_none, errW_some] <;> rfl), by repeat (first | (with_reducible first | exact HB.out | apply below_alloc | apply pw_below_drewN | apply below_drew1) | exact HB.out)⟩
              · replace c34 := Bool.eq_false_iff.mpr c34
                subst c34
                have H1 : ((ferrylaw09_awake.f).bind fun t187 => (some t187)) = some r := by rw [if_neg (show ¬ (false = true) by decide)] at H; exact H
                clear H
                have H := H1
                clear H1
                replace H := Option.bind_eq_some_iff.mp H
                obtain ⟨t187, A380, H⟩ := H
                replace H : (some t187) = some r := H
                have A38 := Aside0.mk A380
                clear A380
                obtain rfl := Option.some.inj H
                go_wp2_with (first | (go_at_call 9; (with_reducible refine (ferrylaw09_awake.calls  t187 _ ?side1 A38.out).mono ?_); (case side1 => first | with_reducible exact hL | exact Laid.below hL (by repeat (first | (with_reducible first | exact HB.out | apply below_alloc | apply pw_below_drewN | apply below_drew1) | exact HB.out))); rintro e w39 ⟨rfl, hb⟩; have n0_ := Aside0.mk (below_step (by repeat (first | (with_reducible first | exact HB.out | apply below_alloc | apply pw_below_drewN | apply below_drew1) | exact HB.out)) hb); clear HB; have HB := n0_; clear n0_; (try clear hb); (try clear hb2); (try clear hk); (try clear hi)))
                go_ret
                exact ⟨by first | rfl | (simp [errW_none, errW_some] <;> rfl) | (simp [*, errW_none, errW_some] <;> rfl), by repeat (first | (with_reducible first | exact HB.out | apply below_alloc | apply pw_below_drewN | apply below_drew1) | exact HB.out)⟩

end Go.Proofs.YtnddjndgfaefaaaDoor.F
end
