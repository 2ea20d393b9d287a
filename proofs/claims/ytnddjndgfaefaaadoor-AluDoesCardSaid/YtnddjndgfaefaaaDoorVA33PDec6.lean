import Derived.Below
import Derived.Deep.Draws
import Derived.Deep.AppendLies
import Derived.Maps.AppendAt
import Derived.OwnWalk
import Derived.Laws.BytesArg
import Derived.Laws.MakeOwn
import Derived.Laws.OwnMore
import Derived.Deep.OwnRows
import Derived.Tactics
import Derived.Lib.ConvBytes
import Derived.Laws.Slices
import Derived.WalkKit
import Derived.KernelRfl
import Derived.RowKit3
import Derived.Deep.LoopGhost
import Derived.Deep.QuietTactic
import Derived.BigQuiet
import Derived.WideLaws
import Derived.Deep.DeepCutAuto
import Derived.Deep.CutBlock
import Derived.Deep.RegionHeld3
import Derived.Laws.Rows
import Derived.Lib.AppendStr
import Derived.ArgAppend
import Derived.Laws.IdiomCopy
import Derived.RowKit
import Derived.OrdersHeld
import Derived.Laws.BitsLemmas
import Derived.Laws.StructEq
import Derived.Shelf.Small.Bits
import Derived.Shelf.LaysM
import Derived.Shelf.Strings.Fields
import Derived.Shelf.Strings.Replace
import Derived.Shelf.Strings.SplitShaped
import Derived.Lib.LaidTab
import Derived.Shelf.Abstract
import Derived.RangeFuncRecord
import Derived.ProofKit
import Derived.Lib.Hide
import Derived.Maps.OwnOps
import Derived.OwnWalkIn
import Derived.WalkSmall
import Derived.Laws.ResultCell
import Derived.Shelf.RegionOpen
import Derived.Deep.RegionWith
import Derived.Test.YtnddjndgfaefaaaDoorVZF0
import Derived.Test.YtnddjndgfaefaaaDoorVA3HDecTake
import Derived.Test.YtnddjndgfaefaaaDoorVA8
import Derived.Test.YtnddjndgfaefaaaDoorVA10HDecForms
import Derived.Test.YtnddjndgfaefaaaDoorVA11HDecFind
import Derived.Test.YtnddjndgfaefaaaDoorVA14
import Derived.Test.YtnddjndgfaefaaaDoorVA15FDecEncode
import Derived.Test.YtnddjndgfaefaaaDoorVA21HDecSpecial
import Derived.Test.YtnddjndgfaefaaaDoorVA22HDecRef
import Derived.Test.YtnddjndgfaefaaaDoorVA23HDecGuess
import Derived.Test.YtnddjndgfaefaaaDoorVA24FFerryref07Encode
import Derived.Test.YtnddjndgfaefaaaDoorVA32PDec4
section
namespace Go.Proofs.YtnddjndgfaefaaaDoor.F
open Go.RowKit Go.Proofs.YtnddjndgfaefaaaDoorW.PrintWords Go.Proofs.YtnddjndgfaefaaaDoorW.PrintLast Go.Proofs.YtnddjndgfaefaaaDoorW.PrintMore
set_option linter.unusedVariables false
set_option linter.unusedSimpArgs false
theorem nums_ne (T n : Nums) (a b : List UInt8) (hab : a = b) : (!(a == b) || (!(T.s == n.s) || (!(T.t == n.t) || (!(T.d == n.d) || (!(T.a == n.a) || (!(T.i == n.i))))))) = true ↔ T ≠ n := by
  subst hab
  obtain ⟨s, t, d, c, i⟩ := T
  obtain ⟨s', t', d', c', i'⟩ := n
  simp only [beq_self_eq_true, Bool.not_true, Bool.false_or, Bool.or_eq_true, Bool.not_eq_true', beq_eq_false_iff_ne, ne_eq, Nums.mk.injEq]
  omega
open Classical in
theorem enc_found (x : S51) (hx : x ∈ decRows) (n : Nums) (hn : foundOf (named_p x.f0) z51 decRows = (x, true)) :
    dec_Encode.f x.f0 n.s n.t n.d n.a n.i = some (if takeAll (infoAt x) (layAll (infoAt x) x.f1 x.f2 n) = n ∧ soundOf x.f0 n = true then (layAll (infoAt x) x.f1 x.f2 n, true) else (0, false)) := by
  have hi := info_at x hx
  have hl : dec_row_lay.f x.f0 x.f1 x.f2 x.f3 x.f0 n.s n.t n.d n.a n.i = some (layAll (infoAt x) x.f1 x.f2 n) := by
    unfold dec_row_lay.f
    rw [hi]
    rfl
  generalize hv : layAll (infoAt x) x.f1 x.f2 n = v at hl
  have ht : dec_row_take.f x.f0 x.f1 x.f2 x.f3 v = some (x.f0, (takeAll (infoAt x) v).s, (takeAll (infoAt x) v).t, (takeAll (infoAt x) v).d, (takeAll (infoAt x) v).a, (takeAll (infoAt x) v).i) := by
    unfold dec_row_take.f
    rw [hi]
    rfl
  have hs : dec_sound.f x.f0 n.s n.t n.d n.a n.i = some (soundOf x.f0 n) := sound_some x.f0 n
  generalize takeAll (infoAt x) v = T at ht
  unfold dec_Encode.f dec_named.f
  rw [hn, Option.bind_some]
  dsimp only
  rw [if_pos rfl, hl, Option.bind_some, ht, Option.bind_some]
  dsimp only
  by_cases he : T = n
  · rw [if_neg (fun h => (nums_ne T n _ _ rfl).1 h he), hs, Option.bind_some]
    by_cases hq : soundOf x.f0 n = true
    · rw [if_pos hq, if_pos ⟨he, hq⟩]
    rw [if_neg hq, if_neg (fun h => hq h.2)]
  rw [if_pos ((nums_ne T n _ _ rfl).2 he), if_neg (fun h => he h.1)]
def nameKeys : List (List UInt8) := decRows.map (fun x => x.f0.toList)
def nameList : List (List UInt8) := [[115, 108, 108], [115, 114, 108], [115, 114, 97], [115, 108, 108, 118], [115, 114, 108, 118], [115, 114, 97, 118], [106, 114], [106, 97, 108, 114], [109, 111, 118, 122], [109, 111, 118, 110], [115, 121, 115, 99, 97, 108, 108], [98, 114, 101, 97, 107], [109, 102, 104, 105], [109, 116, 104, 105], [109, 102, 108, 111], [109, 116, 108, 111], [109, 117, 108, 116], [109, 117, 108, 116, 117], [100, 105, 118], [100, 105, 118, 117], [97, 100, 100], [97, 100, 100, 117], [115, 117, 98], [115, 117, 98, 117], [97, 110, 100], [111, 114], [120, 111, 114], [110, 111, 114], [115, 108, 116], [115, 108, 116, 117], [116, 103, 101], [116, 103, 101, 117], [116, 108, 116], [116, 108, 116, 117], [116, 101, 113], [116, 110, 101], [114, 111, 116, 114], [114, 111, 116, 114, 118], [98, 108, 116, 122], [98, 103, 101, 122], [98, 108, 116, 122, 97, 108], [98, 103, 101, 122, 97, 108], [106], [106, 97, 108], [98, 101, 113], [98, 110, 101], [98, 108, 101, 122], [98, 103, 116, 122], [97, 100, 100, 105], [97, 100, 100, 105, 117], [115, 108, 116, 105], [115, 108, 116, 105, 117], [97, 110, 100, 105], [111, 114, 105], [120, 111, 114, 105], [108, 117, 105], [109, 97, 100, 100], [109, 97, 100, 100, 117], [109, 117, 108], [109, 115, 117, 98], [109, 115, 117, 98, 117], [99, 108, 122], [99, 108, 111], [101, 120, 116], [105, 110, 115], [119, 115, 98, 104], [115, 101, 98], [115, 101, 104], [114, 100, 104, 119, 114], [108, 98], [108, 104], [108, 119, 108], [108, 119], [108, 98, 117], [108, 104, 117], [108, 119, 114], [115, 98], [115, 104], [115, 119, 108], [115, 119], [115, 119, 114], [108, 108], [115, 99]]
theorem nameKeys_eq : nameKeys = nameList := by decide +kernel
theorem named_none (nm : ByteArray) (h : nm.toList ∉ nameKeys) : foundOf (named_p nm) z51 decRows = (z51, false) := by
  have hz := found_zero (named_p nm) z51 decRows
  have hm := found_mem (named_p nm) z51 decRows
  cases hb : (foundOf (named_p nm) z51 decRows).2
  · exact Prod.ext (hz hb) hb
  · exfalso
    have h1 := hm hb
    have h2 : (foundOf (named_p nm) z51 decRows).1.f0.toList = nm.toList := by simpa [named_p] using h1.2
    exact h (h2 ▸ List.mem_map_of_mem (f := fun x => x.f0.toList) h1.1)
theorem named_each : ∀ x ∈ decRows, (foundOf (named_p x.f0) z51 decRows).2 = true ∧ (foundOf (named_p x.f0) z51 decRows).1.f0.toList = x.f0.toList ∧ (foundOf (named_p x.f0) z51 decRows).1.f1 = x.f1 ∧ (foundOf (named_p x.f0) z51 decRows).1.f2 = x.f2 ∧ (foundOf (named_p x.f0) z51 decRows).1.f3.toList = x.f3.toList := by decide +kernel
theorem named_row (x : S51) (hx : x ∈ decRows) : foundOf (named_p x.f0) z51 decRows = (x, true) := by
  obtain ⟨h1, h2, h3, h4, h5⟩ := named_each x hx
  refine Prod.ext ?_ h1
  generalize (foundOf (named_p x.f0) z51 decRows).1 = y at h2 h3 h4 h5 ⊢
  obtain ⟨a, b, c, d⟩ := x
  obtain ⟨a', b', c', d'⟩ := y
  dsimp only at *
  have e1 : a' = a := WideShapes.bytes_inj (by rw [← ByteArray.toList_eq, ← ByteArray.toList_eq, h2])
  have e2 : d' = d := WideShapes.bytes_inj (by rw [← ByteArray.toList_eq, ← ByteArray.toList_eq, h5])
  rw [e1, e2, h3, h4]
set_option maxRecDepth 100000 in
theorem special_none (nm : ByteArray) (h : nm.toList ∉ nameKeys) : ferryref07_special.f nm = some (0, 0, 0, ⟨#[]⟩) := by
  rw [nameKeys_eq] at h
  have hk : ∀ m ∈ nameList, nm.toList ≠ m := fun m hm e => h (e ▸ hm)
  unfold nameList at hk
  simp only [List.forall_mem_cons, List.not_mem_nil] at hk
  unfold ferryref07_special.f ferryref07_other.f ferryref07_memory.f
  simp only [hk, if_false]
  rfl
theorem name_cases (nm : ByteArray) : (∃ x ∈ decRows, x.f0 = nm) ∨ nm.toList ∉ nameKeys := by
  by_cases h : nm.toList ∈ nameKeys
  · refine Or.inl ?_
    obtain ⟨x, hx, e⟩ := List.mem_map.1 h
    exact ⟨x, hx, WideShapes.bytes_inj (by rw [← ByteArray.toList_eq, ← ByteArray.toList_eq, e])⟩
  exact Or.inr h
theorem enc_eq (k : Nat) (nm : ByteArray) (n : Nums) (h0 : 0 ≤ n.i) (h1 : n.i ≤ 4294967295) : ferryref07_Encode.f (k + 1) nm n.s n.t n.d n.a n.i = dec_Encode.f nm n.s n.t n.d n.a n.i := by
  rcases name_cases nm with ⟨x, hx, rfl⟩ | h
  · obtain ⟨b, hb, hbi⟩ := enc_row k x hx n h0 h1
    rw [hb, enc_found x hx n (named_row x hx)]
    by_cases hq : takeAll (infoAt x) (layAll (infoAt x) x.f1 x.f2 n) = n ∧ soundOf x.f0 n = true
    · rw [if_pos hq, if_pos (hbi.2 hq)]
    rw [if_neg hq, if_neg (fun e => hq (hbi.1 e))]
  · unfold ferryref07_Encode.f dec_Encode.f dec_named.f
    rw [special_none nm h, named_none nm h, Option.bind_some, Option.bind_some]
    dsimp only
    have hf : ferryref07_fit.f nm n.s n.t n.d n.a n.i 0 0 0 ⟨#[]⟩ = some false := by
      unfold ferryref07_fit.f
      rw [show regsOf (⟨#[]⟩ : ByteArray).toList = some ([], (false, false, false, false), 0) from by decide +kernel, Option.map_some]
      have e : ((⟨#[]⟩ : ByteArray).toList == []) = true := by decide +kernel
      unfold fitIf
      rw [e]
      rfl
    rw [hf, Option.bind_some, if_neg (by decide), if_neg (by decide)]
end Go.Proofs.YtnddjndgfaefaaaDoor.F
end
