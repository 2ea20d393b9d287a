import Derived.Below
import Derived.Deep.Draws
import Derived.Deep.AppendLies
import Derived.Maps.AppendAt
import Derived.OwnWalk
import Derived.Laws.BytesArg
import Derived.Laws.MakeOwn
import Derived.Laws.OwnMore
import Derived.Deep.OwnRows
import Derived.Tactics
import Derived.Lib.ConvBytes
import Derived.Laws.Slices
import Derived.WalkKit
import Derived.KernelRfl
import Derived.RowKit3
import Derived.Deep.LoopGhost
import Derived.Deep.QuietTactic
import Derived.BigQuiet
import Derived.WideLaws
import Derived.Deep.DeepCutAuto
import Derived.Deep.CutBlock
import Derived.Deep.RegionHeld3
import Derived.Laws.Rows
import Derived.Lib.AppendStr
import Derived.ArgAppend
import Derived.Laws.IdiomCopy
import Derived.RowKit
import Derived.OrdersHeld
import Derived.Laws.BitsLemmas
import Derived.Laws.StructEq
import Derived.ProofKit
import Derived.OwnWalkIn
import Derived.WalkSmall
import Derived.Laws.ResultCell
import Derived.RangeFuncRecord
import Derived.Lib.Hide
import Derived.Deep.RegionWith
import Derived.Maps.OwnOps
import Derived.Shelf.LaysM
import Derived.Shelf.Strings.Replace
import Derived.Lib.LaidTab
import Derived.Shelf.Abstract
import Derived.Shelf.RegionOpen
import Derived.Test.YtjkpgfjnidflhaaDoorZF0
import Derived.Test.YtjkpgfjnidflhaaDoorYA5HDecTake
import Derived.Test.YtjkpgfjnidflhaaDoorYA8HDecForms
import Derived.Test.YtjkpgfjnidflhaaDoorYA10HDecFind
import Derived.Test.YtjkpgfjnidflhaaDoorYA14HDecNamed
import Derived.Test.YtjkpgfjnidflhaaDoorYA15HDecTop
import Derived.Test.YtjkpgfjnidflhaaDoorYA16
import Derived.Test.YtjkpgfjnidflhaaDoorYC20
import Derived.Test.YtjkpgfjnidflhaaDoorYC22PDec4
import Derived.Test.YtjkpgfjnidflhaaDoorYD23PDec6
import Derived.Test.YtjkpgfjnidflhaaDoorYG27FDecEncode
import Derived.Test.YtjkpgfjnidflhaaDoorYG28PDec6
import Derived.Test.YtjkpgfjnidflhaaDoorYH31FFerryref07Special
import Derived.Test.YtjkpgfjnidflhaaDoorYH32
import Derived.Test.YtjkpgfjnidflhaaDoorYH33HDecRef
import Derived.Test.YtjkpgfjnidflhaaDoorYH34HDecGuess
import Derived.Test.YtjkpgfjnidflhaaDoorYH35FFerryref07Encode
import Derived.Test.YtjkpgfjnidflhaaDoorYH38PDec4
section
namespace Go.Proofs.YtjkpgfjnidflhaaDoor.F
open Go.RowKit Go.Proofs.YtjkpgfjnidflhaaDoorW.PrintWords Go.Proofs.YtjkpgfjnidflhaaDoorW.PrintLast Go.Proofs.YtjkpgfjnidflhaaDoorW.PrintMore
attribute [local go_sem] max2_int min2_int max_two min_two max_three min_three max_four min_four
attribute [local go_sem] field47_3
set_option linter.unusedVariables false
set_option linter.unusedSimpArgs false

def ferryref07_Form.f (a0 : ByteArray) : Option (ByteArray) := (ferryref07_special.f a0).bind fun bt214 => (some bt214.2.2.2)
set_option maxHeartbeats 8000000 in
set_option maxRecDepth 100000 in
theorem ferryref07_Form.calls (a0 : ByteArray) (r : ByteArray) (w : World) (h : ferryref07_Form.f a0 = some r) :
    Calls Tryd.prog 14 #[.string a0] w fun e w' => e = .returned (.string r) ∧ Below w.heap.size w w' := by
  have HB := Aside0.mk (Below.refl w.heap.size w)
  have H : ((ferryref07_special.f a0).bind fun bt214 => (some bt214.2.2.2)) = some r := h
  clear h
  replace H := Option.bind_eq_some_iff.mp H
  obtain ⟨⟨t214, t215, t216, t217⟩, A20, H⟩ := H
  replace H : (some t217) = some r := H
  have A2 := Aside0.mk A20
  clear A20
  obtain rfl := Option.some.inj H
  go_enter Tryd.func14, Tryd.ntmps14
  go_wp2_with (first | ((with_reducible refine gate_callee (f := 21) rfl ?_); refine goesL_ (some 4) rfl rfl Tryd.func21 (by kernel_rfl) rfl #[.string a0] rfl (by (try simp only [List.map_toArray, List.map_cons, List.map_nil]); first | done | rfl | (simp only [List.length_drop, List.length_take]; rfl)) ?_; (with_reducible refine (ferryref07_special.calls a0 t214 t215 t216 t217 _ A2.out).mono ?_); rintro e w3 ⟨rfl, hb⟩; refine ⟨_, rfl, ?_⟩; have n0_ := Aside0.mk (below_step (by repeat (first | (with_reducible first | exact HB.out | apply below_alloc | apply pw_below_drewN | apply below_drew1) | exact HB.out)) hb); clear HB; have HB := n0_; clear n0_; (try clear hb); (try clear hb2); (try clear hk); (try clear hi)))
  go_ret
  exact ⟨by first | rfl | (simp [errW_none, errW_some] <;> rfl) | (simp [*, errW_none, errW_some] <;> rfl), by repeat (first | (with_reducible first | exact HB.out | apply below_alloc | apply pw_below_drewN | apply below_drew1) | exact HB.out)⟩

end Go.Proofs.YtjkpgfjnidflhaaDoor.F
end
section
namespace Go.Proofs.YtjkpgfjnidflhaaDoor.F
open Go.RowKit Go.Proofs.YtjkpgfjnidflhaaDoorW.PrintWords Go.Proofs.YtjkpgfjnidflhaaDoorW.PrintLast Go.Proofs.YtjkpgfjnidflhaaDoorW.PrintMore
set_option linter.unusedVariables false
set_option linter.unusedSimpArgs false
open Classical in
def nameList : List (List UInt8) := [[115, 108, 108], [115, 114, 108], [115, 114, 97], [115, 108, 108, 118], [115, 114, 108, 118], [115, 114, 97, 118], [106, 114], [106, 97, 108, 114], [109, 111, 118, 122], [109, 111, 118, 110], [115, 121, 115, 99, 97, 108, 108], [98, 114, 101, 97, 107], [109, 102, 104, 105], [109, 116, 104, 105], [109, 102, 108, 111], [109, 116, 108, 111], [109, 117, 108, 116], [109, 117, 108, 116, 117], [100, 105, 118], [100, 105, 118, 117], [97, 100, 100], [97, 100, 100, 117], [115, 117, 98], [115, 117, 98, 117], [97, 110, 100], [111, 114], [120, 111, 114], [110, 111, 114], [115, 108, 116], [115, 108, 116, 117], [116, 103, 101], [116, 103, 101, 117], [116, 108, 116], [116, 108, 116, 117], [116, 101, 113], [116, 110, 101], [114, 111, 116, 114], [114, 111, 116, 114, 118], [98, 108, 116, 122], [98, 103, 101, 122], [98, 108, 116, 122, 97, 108], [98, 103, 101, 122, 97, 108], [106], [106, 97, 108], [98, 101, 113], [98, 110, 101], [98, 108, 101, 122], [98, 103, 116, 122], [97, 100, 100, 105], [97, 100, 100, 105, 117], [115, 108, 116, 105], [115, 108, 116, 105, 117], [97, 110, 100, 105], [111, 114, 105], [120, 111, 114, 105], [108, 117, 105], [109, 97, 100, 100], [109, 97, 100, 100, 117], [109, 117, 108], [109, 115, 117, 98], [109, 115, 117, 98, 117], [99, 108, 122], [99, 108, 111], [101, 120, 116], [105, 110, 115], [119, 115, 98, 104], [115, 101, 98], [115, 101, 104], [114, 100, 104, 119, 114], [108, 98], [108, 104], [108, 119, 108], [108, 119], [108, 98, 117], [108, 104, 117], [108, 119, 114], [115, 98], [115, 104], [115, 119, 108], [115, 119], [115, 119, 114], [108, 108], [115, 99]]
theorem nameKeys_eq : nameKeys = nameList := by decide +kernel
set_option maxRecDepth 100000 in
theorem special_none (nm : ByteArray) (h : nm.toList ∉ nameKeys) : ferryref07_special.f nm = some (0, 0, 0, ⟨#[]⟩) := by
  rw [nameKeys_eq] at h
  have hk : ∀ m ∈ nameList, nm.toList ≠ m := fun m hm e => h (e ▸ hm)
  unfold nameList at hk
  simp only [List.forall_mem_cons, List.not_mem_nil] at hk
  unfold ferryref07_special.f ferryref07_other.f ferryref07_memory.f
  simp only [hk, if_false]
  rfl
theorem enc_eq (k : Nat) (nm : ByteArray) (n : Nums) (h0 : 0 ≤ n.i) (h1 : n.i ≤ 4294967295) : ferryref07_Encode.f (k + 1) nm n.s n.t n.d n.a n.i = dec_Encode.f nm n.s n.t n.d n.a n.i := by
  rcases name_cases nm with ⟨x, hx, rfl⟩ | h
  · obtain ⟨b, hb, hbi⟩ := enc_row k x hx n h0 h1
    rw [hb, enc_found x hx n (named_row x hx)]
    by_cases hq : takeAll (infoAt x) (layAll (infoAt x) x.f1 x.f2 n) = n ∧ soundOf x.f0 n = true
    · rw [if_pos hq, if_pos (hbi.2 hq)]
    · rw [if_neg hq, if_neg (fun e => hq (hbi.1 e))]
  · unfold ferryref07_Encode.f dec_Encode.f dec_named.f
    rw [special_none nm h, named_none nm h, Option.bind_some, Option.bind_some]
    dsimp only
    have hf : ferryref07_fit.f nm n.s n.t n.d n.a n.i 0 0 0 ⟨#[]⟩ = some false := by
      unfold ferryref07_fit.f
      rw [show regsOf (⟨#[]⟩ : ByteArray).toList = some ([], (false, false, false, false), 0) from by decide +kernel, Option.map_some]
      have e : ((⟨#[]⟩ : ByteArray).toList == []) = true := by decide +kernel
      unfold fitIf
      rw [e]
      rfl
    rw [hf, Option.bind_some, if_neg (by decide), if_neg (by decide)]
theorem form_eq (nm : ByteArray) : ferryref07_Form.f nm = dec_Form.f nm := by
  unfold ferryref07_Form.f dec_Form.f dec_named.f
  rcases name_cases nm with ⟨x, hx, rfl⟩ | h
  · rw [(row_kind x hx).1, named_row x hx]
    rfl
  · rw [special_none nm h, named_none nm h]
    rfl
end Go.Proofs.YtjkpgfjnidflhaaDoor.F
end
