import Derived.Below
import Derived.Deep.Draws
import Derived.Deep.AppendLies
import Derived.Maps.AppendAt
import Derived.OwnWalk
import Derived.Laws.BytesArg
import Derived.Laws.MakeOwn
import Derived.Laws.OwnMore
import Derived.Deep.OwnRows
import Derived.Tactics
import Derived.Lib.ConvBytes
import Derived.Laws.Slices
import Derived.WalkKit
import Derived.KernelRfl
import Derived.RowKit3
import Derived.Deep.LoopGhost
import Derived.Deep.QuietTactic
import Derived.BigQuiet
import Derived.WideLaws
import Derived.Deep.DeepCutAuto
import Derived.Deep.CutBlock
import Derived.Deep.RegionHeld3
import Derived.Laws.Rows
import Derived.Lib.AppendStr
import Derived.ArgAppend
import Derived.Laws.IdiomCopy
import Derived.RowKit
import Derived.OrdersHeld
import Derived.Laws.BitsLemmas
import Derived.Laws.StructEq
import Derived.ProofKit
import Derived.OwnWalkIn
import Derived.WalkSmall
import Derived.Laws.ResultCell
import Derived.RangeFuncRecord
import Derived.Lib.Hide
import Derived.Deep.RegionWith
import Derived.Maps.OwnOps
import Derived.Shelf.LaysM
import Derived.Shelf.Strings.Replace
import Derived.Lib.LaidTab
import Derived.Shelf.Abstract
import Derived.Shelf.RegionOpen
import Derived.Test.YtjkpgfjnidflhaaDoorZF0
import Derived.Test.YtjkpgfjnidflhaaDoorYA5HDecTake
import Derived.Test.YtjkpgfjnidflhaaDoorYA8HDecForms
import Derived.Test.YtjkpgfjnidflhaaDoorYA9FDecSound
import Derived.Test.YtjkpgfjnidflhaaDoorYA10HDecFind
import Derived.Test.YtjkpgfjnidflhaaDoorYA14HDecNamed
import Derived.Test.YtjkpgfjnidflhaaDoorYA15HDecTop
import Derived.Test.YtjkpgfjnidflhaaDoorYG27FDecEncode
section
namespace Go.Proofs.YtjkpgfjnidflhaaDoor.F
open Go.RowKit Go.Proofs.YtjkpgfjnidflhaaDoorW.PrintWords Go.Proofs.YtjkpgfjnidflhaaDoorW.PrintLast Go.Proofs.YtjkpgfjnidflhaaDoorW.PrintMore
set_option linter.unusedVariables false
set_option linter.unusedSimpArgs false
theorem nums_ne (T n : Nums) (a b : List UInt8) (hab : a = b) : (!(a == b) || (!(T.s == n.s) || (!(T.t == n.t) || (!(T.d == n.d) || (!(T.a == n.a) || (!(T.i == n.i))))))) = true ↔ T ≠ n := by
  subst hab
  obtain ⟨s, t, d, c, i⟩ := T
  obtain ⟨s', t', d', c', i'⟩ := n
  simp only [beq_self_eq_true, Bool.not_true, Bool.false_or, Bool.or_eq_true, Bool.not_eq_true', beq_eq_false_iff_ne, ne_eq, Nums.mk.injEq]
  omega
open Classical in
theorem enc_found (x : S38) (hx : x ∈ decRows) (n : Nums) (hn : foundOf (named_p x.f0) z38 decRows = (x, true)) :
    dec_Encode.f x.f0 n.s n.t n.d n.a n.i = some (if takeAll (infoAt x) (layAll (infoAt x) x.f1 x.f2 n) = n ∧ soundOf x.f0 n = true then (layAll (infoAt x) x.f1 x.f2 n, true) else (0, false)) := by
  have hi := info_at x hx
  have hl : dec_row_lay.f x.f0 x.f1 x.f2 x.f3 x.f0 n.s n.t n.d n.a n.i = some (layAll (infoAt x) x.f1 x.f2 n) := by
    unfold dec_row_lay.f
    rw [hi]
    rfl
  generalize hv : layAll (infoAt x) x.f1 x.f2 n = v at hl
  have ht : dec_row_take.f x.f0 x.f1 x.f2 x.f3 v = some (x.f0, (takeAll (infoAt x) v).s, (takeAll (infoAt x) v).t, (takeAll (infoAt x) v).d, (takeAll (infoAt x) v).a, (takeAll (infoAt x) v).i) := by
    unfold dec_row_take.f
    rw [hi]
    rfl
  have hs : dec_sound.f x.f0 n.s n.t n.d n.a n.i = some (soundOf x.f0 n) := sound_some x.f0 n
  generalize takeAll (infoAt x) v = T at ht
  unfold dec_Encode.f dec_named.f
  rw [hn, Option.bind_some]
  dsimp only
  rw [if_pos rfl, hl, Option.bind_some, ht, Option.bind_some]
  dsimp only
  by_cases he : T = n
  · rw [if_neg (fun h => (nums_ne T n _ _ rfl).1 h he), hs, Option.bind_some]
    by_cases hq : soundOf x.f0 n = true
    · rw [if_pos hq, if_pos ⟨he, hq⟩]
    · rw [if_neg hq, if_neg (fun h => hq h.2)]
  · rw [if_pos ((nums_ne T n _ _ rfl).2 he), if_neg (fun h => he h.1)]
def nameKeys : List (List UInt8) := decRows.map (fun x => x.f0.toList)
theorem named_none (nm : ByteArray) (h : nm.toList ∉ nameKeys) : foundOf (named_p nm) z38 decRows = (z38, false) := by
  have hz := found_zero (named_p nm) z38 decRows
  have hm := found_mem (named_p nm) z38 decRows
  cases hb : (foundOf (named_p nm) z38 decRows).2
  · exact Prod.ext (hz hb) hb
  · exfalso
    have h1 := hm hb
    have h2 : (foundOf (named_p nm) z38 decRows).1.f0.toList = nm.toList := by simpa [named_p] using h1.2
    exact h (h2 ▸ List.mem_map_of_mem (f := fun x => x.f0.toList) h1.1)
theorem name_cases (nm : ByteArray) : (∃ x ∈ decRows, x.f0 = nm) ∨ nm.toList ∉ nameKeys := by
  by_cases h : nm.toList ∈ nameKeys
  · refine Or.inl ?_
    obtain ⟨x, hx, e⟩ := List.mem_map.1 h
    exact ⟨x, hx, WideShapes.bytes_inj (by rw [← ByteArray.toList_eq, ← ByteArray.toList_eq, e])⟩
  · exact Or.inr h
end Go.Proofs.YtjkpgfjnidflhaaDoor.F
end
