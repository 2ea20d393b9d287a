import Derived.Below
import Derived.Deep.Draws
import Derived.Deep.AppendLies
import Derived.Maps.AppendAt
import Derived.OwnWalk
import Derived.Laws.BytesArg
import Derived.Laws.MakeOwn
import Derived.Laws.OwnMore
import Derived.Deep.OwnRows
import Derived.Tactics
import Derived.Lib.ConvBytes
import Derived.Laws.Slices
import Derived.WalkKit
import Derived.KernelRfl
import Derived.RowKit3
import Derived.Deep.LoopGhost
import Derived.Deep.QuietTactic
import Derived.BigQuiet
import Derived.WideLaws
import Derived.Deep.DeepCutAuto
import Derived.Deep.CutBlock
import Derived.Deep.RegionHeld3
import Derived.Laws.Rows
import Derived.Lib.AppendStr
import Derived.ArgAppend
import Derived.Laws.IdiomCopy
import Derived.RowKit
import Derived.OrdersHeld
import Derived.Laws.BitsLemmas
import Derived.Laws.StructEq
import Derived.ProofKit
import Derived.Lib.Hide
import Derived.Maps.OwnOps
import Derived.RangeFuncRecord
import Derived.Shelf.LaysM
import Derived.Shelf.Strings.Replace
import Derived.Lib.LaidTab
import Derived.Shelf.Abstract
import Derived.OwnWalkIn
import Derived.WalkSmall
import Derived.Laws.ResultCell
import Derived.Shelf.RegionOpen
import Derived.Deep.RegionWith
import Derived.OpenShut
import Derived.Deep.Slices
import Derived.SizedLaws
import Derived.Test.YtjkpgfjnidflhaaDoorZF0
import Derived.Test.YtjkpgfjnidflhaaDoorYA1HDecRef
import Derived.Test.YtjkpgfjnidflhaaDoorYA5HDecTake
import Derived.Test.YtjkpgfjnidflhaaDoorYA8HDecForms
import Derived.Test.YtjkpgfjnidflhaaDoorYA14HDecNamed
import Derived.Test.YtjkpgfjnidflhaaDoorYA15HDecTop
import Derived.Test.YtjkpgfjnidflhaaDoorYA16
import Derived.Test.YtjkpgfjnidflhaaDoorYA18PDec4
import Derived.Test.YtjkpgfjnidflhaaDoorYB19PDec3
import Derived.Test.YtjkpgfjnidflhaaDoorYD23PDec6
import Derived.Test.YtjkpgfjnidflhaaDoorYK50FFerrylaw07DecForms
section
namespace Go.Proofs.YtjkpgfjnidflhaaDoor.F
open Go.RowKit Go.Proofs.YtjkpgfjnidflhaaDoorW.PrintWords Go.Proofs.YtjkpgfjnidflhaaDoorW.PrintLast Go.Proofs.YtjkpgfjnidflhaaDoorW.PrintMore
def ferrylaw07_DecForms.Pure : Prop :=
  ∀ (a0 : Int), (0 ≤ a0 ∧ a0 ≤ 4294967295) → ∃ k, ferrylaw07_DecForms.f k a0 = some true
end Go.Proofs.YtjkpgfjnidflhaaDoor.F
end
section
namespace Go.Proofs.YtjkpgfjnidflhaaDoor.F
open Go.RowKit Go.Proofs.YtjkpgfjnidflhaaDoorW.PrintWords Go.Proofs.YtjkpgfjnidflhaaDoorW.PrintLast Go.Proofs.YtjkpgfjnidflhaaDoorW.PrintMore
set_option linter.unusedVariables false
set_option linter.unusedSimpArgs false
theorem forms_awake : ferrylaw07_awake.f = some true := by decide +kernel
theorem tr_bounds (x : S38) (hx : x ∈ decRows) (w : Int) (h0 : 0 ≤ w) (h1 : w ≤ 4294967295) :
    (0 ≤ (takeAll (infoAt x) w).s ∧ (takeAll (infoAt x) w).s < 32) ∧ (0 ≤ (takeAll (infoAt x) w).t ∧ (takeAll (infoAt x) w).t < 32) ∧ (0 ≤ (takeAll (infoAt x) w).d ∧ (takeAll (infoAt x) w).d < 32) ∧ (0 ≤ (takeAll (infoAt x) w).a ∧ (takeAll (infoAt x) w).a < 32) ∧ (takeAll (infoAt x) w).i < 67108864 := by
  obtain ⟨hm, he⟩ := info_form x hx
  generalize infoAt x = q at hm he ⊢
  have key : ∀ (n : Nums) (a b c d : Bool) (top : Int), (fitsOf n.s a = true ∧ fitsOf n.t b = true ∧ fitsOf n.d c = true ∧ fitsOf n.a d = true ∧ decide (top ≤ n.i) = false) → top ≤ 67108864 → (0 ≤ n.s ∧ n.s < 32) ∧ (0 ≤ n.t ∧ n.t < 32) ∧ (0 ≤ n.d ∧ n.d < 32) ∧ (0 ≤ n.a ∧ n.a < 32) ∧ n.i < 67108864 := by
    intro n a b c d top h ht
    obtain ⟨p1, p2, p3, p4, p5⟩ := h
    have p6 := of_decide_eq_false p5
    exact ⟨⟨(fits_bound p1).1, (fits_bound p1).2.1⟩, ⟨(fits_bound p2).1, (fits_bound p2).2.1⟩, ⟨(fits_bound p3).1, (fits_bound p3).2.1⟩, ⟨(fits_bound p4).1, (fits_bound p4).2.1⟩, by omega⟩
  simp only [formTable, List.mem_cons, List.not_mem_nil, or_false] at hm
  rcases hm with rfl | rfl | rfl | rfl | rfl | rfl | rfl | rfl | rfl | rfl | rfl | rfl | rfl | rfl | rfl | rfl | rfl | rfl | rfl | rfl
  · exact key _ _ _ _ _ _ (tr_dta w h0 h1).1 (by decide)
  · exact key _ _ _ _ _ _ (tr_dts w h0 h1).1 (by decide)
  · exact key _ _ _ _ _ _ (tr_s w h0 h1).1 (by decide)
  · exact key _ _ _ _ _ _ (tr_ds w h0 h1).1 (by decide)
  · exact key _ _ _ _ _ _ (tr_dst w h0 h1).1 (by decide)
  · exact key _ _ _ _ _ _ (tr_c w h0 h1).1 (by decide)
  · exact key _ _ _ _ _ _ (tr_d w h0 h1).1 (by decide)
  · exact key _ _ _ _ _ _ (tr_st w h0 h1).1 (by decide)
  · exact key _ _ _ _ _ _ (tr_dtr w h0 h1).1 (by decide)
  · exact key _ _ _ _ _ _ (tr_dtv w h0 h1).1 (by decide)
  · exact key _ _ _ _ _ _ (tr_so w h0 h1).1 (by decide)
  · exact key _ _ _ _ _ _ (tr_j w h0 h1).1 (by decide)
  · exact key _ _ _ _ _ _ (tr_sto w h0 h1).1 (by decide)
  · exact key _ _ _ _ _ _ (tr_tsi w h0 h1).1 (by decide)
  · exact key _ _ _ _ _ _ (tr_ti w h0 h1).1 (by decide)
  · exact key _ _ _ _ _ _ (tr_dsd w h0 h1).1 (by decide)
  · exact key _ _ _ _ _ _ (tr_tsx w h0 h1).1 (by decide)
  · exact key _ _ _ _ _ _ (tr_dt w h0 h1).1 (by decide)
  · exact key _ _ _ _ _ _ (tr_td w h0 h1).1 (by decide)
  · exact key _ _ _ _ _ _ (tr_tm w h0 h1).1 (by decide)
theorem forms_full : decRows.all (fun x => x.f3.toList != []) = true := by decide +kernel
attribute [local irreducible] ferrylaw07_awake.f dec_Form.f dec_Decode.f in
theorem forms_step (k : Nat) (i : Int) (l : List Int) (x1 : ByteArray) (y1 y2 y3 y4 y5 : Int) (h0 : i < 4) (h1 : 0 ≤ i) (h2 : i < (l.length : Int)) (h3 : ¬ rd l i < 0) (h4 : ¬ rd l i > 31) :
    ferrylaw07_DecForms.l0 (k + 1) l 4 i x1 y1 y2 y3 y4 y5 = ferrylaw07_DecForms.l0 k l 4 (wrap64 (i + 1)) x1 y1 y2 y3 y4 y5 := by
  simp only [ferrylaw07_DecForms.l0]
  rw [if_pos h0, if_pos h1, if_pos h2, if_neg h3, if_neg h4]
attribute [local irreducible] ferrylaw07_awake.f dec_Form.f dec_Decode.f in
theorem forms_end (k : Nat) (l : List Int) (x1 : ByteArray) (y1 y2 y3 y4 y5 : Int) :
    ferrylaw07_DecForms.l0 (k + 1) l 4 ((3 + 1 : Nat) : Int) x1 y1 y2 y3 y4 y5 = (dec_Form.f x1).bind fun t195 => (if t195.toList = ([] : List UInt8) then (some false) else (if y5 < 67108864 then ((ferrylaw07_awake.f).bind fun t196 => (some t196)) else (some false))) := by
  simp only [ferrylaw07_DecForms.l0]
  rw [if_neg (by decide)]
theorem forms_l4 (k : Nat) (j : Nat) (l : List Int) (v : Int) (x1 : ByteArray) (y1 y2 y3 y4 y5 : Int) (hl : l.length = 4) (hj : j < 4) (hv : l.getD j 0 = v) (h0 : 0 ≤ v) (h1 : v < 32) :
    ferrylaw07_DecForms.l0 (k + 1) l 4 (j : Int) x1 y1 y2 y3 y4 y5 = ferrylaw07_DecForms.l0 k l 4 ((j + 1 : Nat) : Int) x1 y1 y2 y3 y4 y5 := by
  have hrd : rd l (j : Int) = v := by
    rw [← hv]
    unfold rd
    rw [Int.toNat_natCast]
  have hwr : wrap64 ((j : Int) + 1) = ((j + 1 : Nat) : Int) := by
    rw [w64_id (by omega) (by omega)]
    rfl
  rw [forms_step k (j : Int) l x1 y1 y2 y3 y4 y5 (by omega) (by omega) (by rw [hl]; omega) (by rw [hrd]; omega) (by rw [hrd]; omega), hwr]
theorem DecForms_pure : ferrylaw07_DecForms.Pure := by
  intro w hw
  refine ⟨10, ?_⟩
  unfold ferrylaw07_DecForms.f
  have hm := found_mem (decode_p w) z38 decRows
  have hd : dec_Decode.f w = some ((foundOf (decode_p w) z38 decRows).1.f0, (decNums w).s, (decNums w).t, (decNums w).d, (decNums w).a, (decNums w).i, (foundOf (decode_p w) z38 decRows).2) := rfl
  have hn : decNums w = if (foundOf (decode_p w) z38 decRows).2 then takeAll (infoAt (foundOf (decode_p w) z38 decRows).1) w else nums0 := rfl
  rw [hd, Option.bind_some]
  dsimp only
  cases hb : (foundOf (decode_p w) z38 decRows).2
  · rw [if_neg (by decide), forms_awake]
    rfl
  · rw [hb, if_pos rfl] at hn
    have hx := (hm hb).1
    generalize (foundOf (decode_p w) z38 decRows).1 = x at hn hx ⊢
    obtain ⟨b1, b2, b3, b4, b5⟩ := tr_bounds x hx w hw.1 hw.2
    have hfo : dec_Form.f x.f0 = some x.f3 := by
      unfold dec_Form.f dec_named.f
      rw [named_row x hx]
      rfl
    have hne := List.all_eq_true.1 forms_full x hx
    rw [bne_iff_ne] at hne
    rw [← hn] at b1 b2 b3 b4 b5
    generalize decNums w = n at b1 b2 b3 b4 b5 ⊢
    rw [if_pos rfl, Option.bind_some]
    show ferrylaw07_DecForms.l0 (9 + 1) [n.s, n.t, n.d, n.a] 4 ((0 : Nat) : Int) x.f0 n.s n.t n.d n.a n.i = some true
    rw [forms_l4 9 0 _ n.s _ _ _ _ _ _ rfl (by decide) rfl b1.1 b1.2, forms_l4 8 1 _ n.t _ _ _ _ _ _ rfl (by decide) rfl b2.1 b2.2, forms_l4 7 2 _ n.d _ _ _ _ _ _ rfl (by decide) rfl b3.1 b3.2, forms_l4 6 3 _ n.a _ _ _ _ _ _ rfl (by decide) rfl b4.1 b4.2]
    rw [forms_end, hfo, Option.bind_some, if_neg hne, if_pos b5, forms_awake]
    rfl
end Go.Proofs.YtjkpgfjnidflhaaDoor.F
end
