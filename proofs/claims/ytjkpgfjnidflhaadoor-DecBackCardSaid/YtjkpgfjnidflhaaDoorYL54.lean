import Derived.Below
import Derived.Deep.Draws
import Derived.Deep.AppendLies
import Derived.Maps.AppendAt
import Derived.OwnWalk
import Derived.Laws.BytesArg
import Derived.Laws.MakeOwn
import Derived.Laws.OwnMore
import Derived.Deep.OwnRows
import Derived.Tactics
import Derived.Lib.ConvBytes
import Derived.Laws.Slices
import Derived.WalkKit
import Derived.KernelRfl
import Derived.RowKit3
import Derived.Deep.LoopGhost
import Derived.Deep.QuietTactic
import Derived.BigQuiet
import Derived.WideLaws
import Derived.Deep.DeepCutAuto
import Derived.Deep.CutBlock
import Derived.Deep.RegionHeld3
import Derived.Laws.Rows
import Derived.Lib.AppendStr
import Derived.ArgAppend
import Derived.Laws.IdiomCopy
import Derived.RowKit
import Derived.OrdersHeld
import Derived.Laws.BitsLemmas
import Derived.Laws.StructEq
import Derived.ProofKit
import Derived.Lib.Hide
import Derived.Maps.OwnOps
import Derived.RangeFuncRecord
import Derived.Shelf.LaysM
import Derived.Shelf.Strings.Replace
import Derived.Lib.LaidTab
import Derived.Shelf.Abstract
import Derived.OwnWalkIn
import Derived.WalkSmall
import Derived.Laws.ResultCell
import Derived.Shelf.RegionOpen
import Derived.Deep.RegionWith
import Derived.OpenShut
import Derived.Deep.Slices
import Derived.SizedLaws
import Derived.Test.YtjkpgfjnidflhaaDoorZF0
import Derived.Test.YtjkpgfjnidflhaaDoorYA5HDecTake
import Derived.Test.YtjkpgfjnidflhaaDoorYA8HDecForms
import Derived.Test.YtjkpgfjnidflhaaDoorYA14HDecNamed
import Derived.Test.YtjkpgfjnidflhaaDoorYA15HDecTop
import Derived.Test.YtjkpgfjnidflhaaDoorYA16
import Derived.Test.YtjkpgfjnidflhaaDoorYD23PDec6
import Derived.Test.YtjkpgfjnidflhaaDoorYE24PDec4
import Derived.Test.YtjkpgfjnidflhaaDoorYG27FDecEncode
import Derived.Test.YtjkpgfjnidflhaaDoorYG28PDec6
import Derived.Test.YtjkpgfjnidflhaaDoorYI39PDec7
import Derived.Test.YtjkpgfjnidflhaaDoorYI40PDec8
import Derived.Test.YtjkpgfjnidflhaaDoorYL53FFerrylaw07DecBack
section
namespace Go.Proofs.YtjkpgfjnidflhaaDoor.F
open Go.RowKit Go.Proofs.YtjkpgfjnidflhaaDoorW.PrintWords Go.Proofs.YtjkpgfjnidflhaaDoorW.PrintLast Go.Proofs.YtjkpgfjnidflhaaDoorW.PrintMore
def ferrylaw07_DecBack.Pure : Prop :=
  ∀ (a0 : Int) (a1_0 : ByteArray) (a1_1 : Int) (a1_2 : Int) (a1_3 : Int) (a1_4 : Int) (a1_5 : Int), (0 ≤ a0 ∧ a0 ≤ 4294967295) → (a1_0.size ≤ 9223372036854775807) → ((-9223372036854775808) ≤ a1_1 ∧ a1_1 ≤ 9223372036854775807) → ((-9223372036854775808) ≤ a1_2 ∧ a1_2 ≤ 9223372036854775807) → ((-9223372036854775808) ≤ a1_3 ∧ a1_3 ≤ 9223372036854775807) → ((-9223372036854775808) ≤ a1_4 ∧ a1_4 ≤ 9223372036854775807) → (0 ≤ a1_5 ∧ a1_5 ≤ 4294967295) → ∃ k, ferrylaw07_DecBack.f k a0 a1_0 a1_1 a1_2 a1_3 a1_4 a1_5 = some true
end Go.Proofs.YtjkpgfjnidflhaaDoor.F
end
section
namespace Go.Proofs.YtjkpgfjnidflhaaDoor.F
open Go.RowKit Go.Proofs.YtjkpgfjnidflhaaDoorW.PrintWords Go.Proofs.YtjkpgfjnidflhaaDoorW.PrintLast Go.Proofs.YtjkpgfjnidflhaaDoorW.PrintMore
set_option linter.unusedVariables false
set_option linter.unusedSimpArgs false
theorem found_some {α : Type} (p : α → Bool) (z : α) : ∀ (l : List α) (x : α), x ∈ l → p x = true → (foundOf p z l).2 = true
  | [], _, h, _ => by cases h
  | y :: l, x, h, hp => by
    unfold foundOf
    by_cases hy : p y = true
    · rw [if_pos hy]
    · rw [if_neg hy]
      rcases List.mem_cons.1 h with rfl | h
      · exact absurd hp hy
      · exact found_some p z l x h hp
theorem dec_of (w : Int) (h0 : 0 ≤ w) (h1 : w ≤ 4294967295) (x : S38) (hx : x ∈ decRows) (hp : decode_p w x = true) :
    dec_Decode.f w = some (x.f0, (takeAll (infoAt x) w).s, (takeAll (infoAt x) w).t, (takeAll (infoAt x) w).d, (takeAll (infoAt x) w).a, (takeAll (infoAt x) w).i, true) := by
  have hb := found_some (decode_p w) z38 decRows x hx hp
  have hm := found_mem (decode_p w) z38 decRows hb
  have he := row_unique w h0 h1 _ x hm.1 hx hm.2 hp
  unfold dec_Decode.f decNums
  rw [hb, he, if_pos rfl]
theorem dec_cases (w : Int) (h0 : 0 ≤ w) (h1 : w ≤ 4294967295) :
    dec_Decode.f w = some (⟨#[]⟩, 0, 0, 0, 0, 0, false) ∨ ∃ x ∈ decRows, decode_p w x = true ∧ dec_Decode.f w = some (x.f0, (takeAll (infoAt x) w).s, (takeAll (infoAt x) w).t, (takeAll (infoAt x) w).d, (takeAll (infoAt x) w).a, (takeAll (infoAt x) w).i, true) := by
  cases hb : (foundOf (decode_p w) z38 decRows).2
  · refine Or.inl ?_
    have hz := found_zero (decode_p w) z38 decRows hb
    unfold dec_Decode.f decNums
    rw [hb, hz, if_neg (by decide)]
    rfl
  · have hm := found_mem (decode_p w) z38 decRows hb
    exact Or.inr ⟨_, hm.1, hm.2, dec_of w h0 h1 _ hm.1 hm.2⟩
end Go.Proofs.YtjkpgfjnidflhaaDoor.F
end
section
namespace Go.Proofs.YtjkpgfjnidflhaaDoor.F
open Go.RowKit Go.Proofs.YtjkpgfjnidflhaaDoorW.PrintWords Go.Proofs.YtjkpgfjnidflhaaDoorW.PrintLast Go.Proofs.YtjkpgfjnidflhaaDoorW.PrintMore
set_option linter.unusedVariables false
set_option linter.unusedSimpArgs false
theorem back_awake : ferrylaw07_awake.f = some true := by decide +kernel
theorem back_there (k : Nat) (b : Bool) (nm : ByteArray) (n : Nums) (h0 : 0 ≤ n.i) (h1 : n.i ≤ 4294967295) (y0 : ByteArray) (y1 y2 y3 y4 y5 : Int) (hy : b = false → y0.toList = [] ∧ y1 = 0 ∧ y2 = 0 ∧ y3 = 0 ∧ y4 = 0 ∧ y5 = 0) :
    ferrylaw07_DecBack.j0 (k + 1) b false nm n.s n.t n.d n.a n.i y0 y1 y2 y3 y4 y5 = some true := by
  unfold ferrylaw07_DecBack.j0
  dsimp only
  rw [if_neg (by decide)]
  rcases enc_cases nm n h0 h1 with he | ⟨x, hx, hnm, he, ht, hp, r0, r1⟩
  · rw [he, Option.bind_some]
    dsimp only
    rw [if_neg (by decide), if_pos rfl]
    cases b with
    | true => rw [if_pos rfl, back_awake]; rfl
    | false =>
      obtain ⟨z0, z1, z2, z3, z4, z5⟩ := hy rfl
      rw [if_neg (by decide), z0, z1, z2, z3, z4, z5, if_pos (by decide), back_awake]
      rfl
  · rw [he, Option.bind_some]
    dsimp only
    rw [if_pos rfl, dec_of _ r0 r1 x hx hp, Option.bind_some]
    dsimp only
    rw [if_pos rfl, ht, hnm]
    simp only [beq_self_eq_true, Bool.and_self, if_true, back_awake, Option.bind_some]
theorem DecBack_pure : ferrylaw07_DecBack.Pure := by
  unfold ferrylaw07_DecBack.Pure
  intro w nm s t d a i
  intros
  refine ⟨2, ?_⟩
  have hw0 : 0 ≤ w := by omega
  have hw1 : w ≤ 4294967295 := by omega
  have hi0 : 0 ≤ i := by omega
  have hi1 : i ≤ 4294967295 := by omega
  unfold ferrylaw07_DecBack.f
  rcases dec_cases w hw0 hw1 with hd | ⟨x, hx, hp, hd⟩
  · rw [hd, Option.bind_some]
    dsimp only
    have he : ∃ v, dec_Encode.f ⟨#[]⟩ 0 0 0 0 0 = some v := by
      rcases enc_cases ⟨#[]⟩ ⟨0, 0, 0, 0, 0⟩ (by decide) (by decide) with e | ⟨x, _, _, e, _⟩
      · exact ⟨_, e⟩
      · exact ⟨_, e⟩
    obtain ⟨v, hv⟩ := he
    rw [hv, Option.bind_some, if_neg (by decide)]
    exact back_there 1 false nm ⟨s, t, d, a, i⟩ hi0 hi1 _ _ _ _ _ _ (fun _ => ⟨by decide +kernel, rfl, rfl, rfl, rfl, rfl⟩)
  · rw [hd, Option.bind_some]
    dsimp only
    have hm := match_parts w x hp
    have hr := tr_row x hx w hw0 hw1
    have he := enc_found x hx (takeAll (infoAt x) w) (named_row x hx)
    rw [hm.1, if_pos ⟨rfl, hm.2⟩] at he
    rw [he, Option.bind_some]
    dsimp only
    rw [if_pos rfl, if_pos rfl]
    exact back_there 1 true nm ⟨s, t, d, a, i⟩ hi0 hi1 _ _ _ _ _ _ (fun e => by cases e)
end Go.Proofs.YtjkpgfjnidflhaaDoor.F
end
