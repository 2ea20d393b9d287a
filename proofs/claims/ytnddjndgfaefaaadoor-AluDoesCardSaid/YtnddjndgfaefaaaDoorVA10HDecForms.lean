import Derived.Below
import Derived.Deep.Draws
import Derived.Deep.AppendLies
import Derived.Maps.AppendAt
import Derived.OwnWalk
import Derived.Laws.BytesArg
import Derived.Laws.MakeOwn
import Derived.Laws.OwnMore
import Derived.Deep.OwnRows
import Derived.Tactics
import Derived.Lib.ConvBytes
import Derived.Laws.Slices
import Derived.WalkKit
import Derived.KernelRfl
import Derived.RowKit3
import Derived.Deep.LoopGhost
import Derived.Deep.QuietTactic
import Derived.BigQuiet
import Derived.WideLaws
import Derived.Deep.DeepCutAuto
import Derived.Deep.CutBlock
import Derived.Deep.RegionHeld3
import Derived.Laws.Rows
import Derived.Lib.AppendStr
import Derived.ArgAppend
import Derived.Laws.IdiomCopy
import Derived.RowKit
import Derived.OrdersHeld
import Derived.Laws.BitsLemmas
import Derived.Laws.StructEq
import Derived.Shelf.Small.Bits
import Derived.Shelf.LaysM
import Derived.Shelf.Strings.Fields
import Derived.Shelf.Strings.Replace
import Derived.Shelf.Strings.SplitShaped
import Derived.Lib.LaidTab
import Derived.Shelf.Abstract
import Derived.RangeFuncRecord
import Derived.ProofKit
import Derived.Lib.Hide
import Derived.Maps.OwnOps
import Derived.OwnWalkIn
import Derived.WalkSmall
import Derived.Laws.ResultCell
import Derived.Shelf.RegionOpen
import Derived.Deep.RegionWith
import Derived.Test.YtnddjndgfaefaaaDoorVZF0
import Derived.Test.YtnddjndgfaefaaaDoorVA0
import Derived.Test.YtnddjndgfaefaaaDoorVA2
import Derived.Test.YtnddjndgfaefaaaDoorVA3HDecTake
import Derived.Test.YtnddjndgfaefaaaDoorVA4
import Derived.Test.YtnddjndgfaefaaaDoorVA9HDecLay
section
namespace Go.Proofs.YtnddjndgfaefaaaDoor.F
open Go.RowKit Go.Shelf Go.Proofs.YtnddjndgfaefaaaDoorW.PrintWords Go.Proofs.YtnddjndgfaefaaaDoorW.PrintLast Go.Proofs.YtnddjndgfaefaaaDoorW.PrintMore
set_option linter.unusedVariables false
set_option linter.unusedSimpArgs false
def formTable : List (List UInt8 × List UInt8 × Int × Int) := [
  ([100, 116, 97], [100, 116, 97], 0, 16),
  ([100, 116, 115], [100, 116, 115], 0, 16),
  ([115], [115], 0, 16),
  ([100, 115], [100, 115], 0, 16),
  ([100, 115, 116], [100, 115, 116], 0, 16),
  ([99], [105], 6, 20),
  ([100], [100], 0, 16),
  ([115, 116], [115, 116], 0, 16),
  ([100, 116, 114], [100, 116, 97], 0, 16),
  ([100, 116, 118], [100, 116, 115], 0, 16),
  ([115, 111], [115, 105], 0, 16),
  ([106], [105], 0, 26),
  ([115, 116, 111], [115, 116, 105], 0, 16),
  ([116, 115, 105], [116, 115, 105], 0, 16),
  ([116, 105], [116, 105], 0, 16),
  ([100, 115, 100], [100, 115], 0, 16),
  ([116, 115, 120], [116, 115, 100, 97], 0, 16),
  ([100, 116], [100, 116], 0, 16),
  ([116, 100], [116, 100], 0, 16),
  ([116, 109], [116, 115, 105], 0, 16)]
def infoOf (f : List UInt8) : Option (List UInt8 × List UInt8 × Int × Int) := formTable.find? (fun r => r.1 == f)
def formFits (r : List UInt8 × List UInt8 × Int × Int) : Bool :=
  (dec_letters.f 6 ⟨r.1.toArray⟩).map (fun b => b.data.toList) == some r.2.1 && dec_shape.f ⟨r.1.toArray⟩ == some (r.2.2.1, r.2.2.2) && decide (r.2.1.length < 1000) &&
    ((r.2.2.1 == 6 && r.2.2.2 == 20) || (r.2.2.1 == 0 && r.2.2.2 == 26) || (r.2.2.1 == 0 && r.2.2.2 == 16)) && r.2.1.all (fun c => c == 105 || c == 115 || c == 116 || c == 100 || c == 97)
theorem forms_fit : formTable.all formFits = true := by decide +kernel
theorem info_fits (form : ByteArray) (r : List UInt8 × List UInt8 × Int × Int) (h : infoOf form.toList = some r) :
    dec_letters.f 6 form = some ⟨r.2.1.toArray⟩ ∧ dec_shape.f form = some (r.2.2.1, r.2.2.2) ∧ (⟨r.2.1.toArray⟩ : ByteArray).size < 1000 ∧
    ((r.2.2.1 = 6 ∧ r.2.2.2 = 20) ∨ (r.2.2.1 = 0 ∧ r.2.2.2 = 26) ∨ (r.2.2.1 = 0 ∧ r.2.2.2 = 16)) ∧ (∀ c ∈ (⟨r.2.1.toArray⟩ : ByteArray).toList, c = 105 ∨ c = 115 ∨ c = 116 ∨ c = 100 ∨ c = 97) := by
  have hm : r ∈ formTable := List.mem_of_find?_eq_some h
  have he : r.1 = form.toList := by simpa using List.find?_some h
  have hf := List.all_eq_true.1 forms_fit r hm
  obtain rfl := bytes_of he.symm
  unfold formFits at hf
  simp only [Bool.and_eq_true, Bool.or_eq_true, beq_iff_eq, decide_eq_true_eq, List.all_eq_true] at hf
  obtain ⟨⟨⟨⟨h1, h2⟩, h3⟩, h4⟩, h5⟩ := hf
  refine ⟨?_, h2, by simpa [ByteArray.size] using h3, ?_, fun c hc => ?_⟩
  · cases hl : dec_letters.f 6 ⟨r.1.toArray⟩ with
    | none =>
      rw [hl] at h1
      cases h1
    | some b =>
      rw [hl] at h1
      simp only [Option.map_some, Option.some.injEq] at h1
      rw [show b = ⟨r.2.1.toArray⟩ from WideShapes.bytes_inj (by simpa using h1)]
  · rcases h4 with (h | h) | h
    · exact Or.inl h
    · exact Or.inr (Or.inl h)
    · exact Or.inr (Or.inr h)
  · rw [ByteArray.toList_eq] at hc
    rcases h5 c (by simpa using hc) with (((h | h) | h) | h) | h
    · exact Or.inl h
    · exact Or.inr (Or.inl h)
    · exact Or.inr (Or.inr (Or.inl h))
    · exact Or.inr (Or.inr (Or.inr (Or.inl h)))
    · exact Or.inr (Or.inr (Or.inr (Or.inr h)))
def takeAll (r : List UInt8 × List UInt8 × Int × Int) (w0 : Int) : Nums := r.2.1.foldl (takeOne w0 r.2.2.1 r.2.2.2) nums0
-- HAND fn=(ferry/dec.row).take ; rounds=0 ; making=1 ; laid=1
def dec_row_take.f (a0_0 : ByteArray) (a0_1 : Int) (a0_2 : Int) (a0_3 : ByteArray) (a1 : Int) : Option (ByteArray × Int × Int × Int × Int × Int) :=
  (infoOf a0_3.toList).map fun r => (a0_0, (takeAll r a1).s, (takeAll r a1).t, (takeAll r a1).d, (takeAll r a1).a, (takeAll r a1).i)
theorem dec_row_take.calls (a0_0 : ByteArray) (a0_1 : Int) (a0_2 : Int) (a0_3 : ByteArray) (a1 : Int) (r1 : ByteArray) (r2 : Int) (r3 : Int) (r4 : Int) (r5 : Int) (r6 : Int) (w : World) (hL : Laid w) (h : dec_row_take.f a0_0 a0_1 a0_2 a0_3 a1 = some (r1, r2, r3, r4, r5, r6)) :
    Calls Tryd.prog 32 #[.agg #[.string a0_0, .int .u32 a0_1, .int .u32 a0_2, .string a0_3], .int .u32 a1] w fun e w' => e = .returned (.agg #[.string r1, .int .i64 r2, .int .i64 r3, .int .i64 r4, .int .i64 r5, .int .u32 r6]) ∧ Below w.heap.size w w' := by
  unfold dec_row_take.f at h
  cases hi : infoOf a0_3.toList with
  | none =>
    rw [hi] at h
    cases h
  | some r =>
    rw [hi] at h
    simp only [Option.map_some, Option.some.injEq, Prod.mk.injEq] at h
    obtain ⟨rfl, rfl, rfl, rfl, rfl, rfl⟩ := h
    obtain ⟨h1, h2, h3, h4, h5⟩ := info_fits a0_3 r hi
    exact row_take.walk a0_0 a0_3 ⟨r.2.1.toArray⟩ a0_1 a0_2 a1 r.2.2.1 r.2.2.2 6 w hL h1 h2 h3 h4 h5 (takeAll r a1) rfl
def layFields (r : List UInt8 × List UInt8 × Int × Int) (x : Nums) : Int := r.2.1.foldl (layOne x r.2.2.1 r.2.2.2) 0
def layAll (r : List UInt8 × List UInt8 × Int × Int) (op sub : Int) (x : Nums) : Int := bits .or .u32 (layFields r x) (fixedOf r.1 op sub (layFields r x))
-- HAND fn=(ferry/dec.row).lay ; rounds=0 ; making=1 ; laid=1
def dec_row_lay.f (a0_0 : ByteArray) (a0_1 : Int) (a0_2 : Int) (a0_3 : ByteArray) (a1_0 : ByteArray) (a1_1 : Int) (a1_2 : Int) (a1_3 : Int) (a1_4 : Int) (a1_5 : Int) : Option Int :=
  (infoOf a0_3.toList).map fun r => layAll r a0_1 a0_2 ⟨a1_1, a1_2, a1_3, a1_4, a1_5⟩
theorem dec_row_lay.calls (a0_0 : ByteArray) (a0_1 : Int) (a0_2 : Int) (a0_3 : ByteArray) (a1_0 : ByteArray) (a1_1 : Int) (a1_2 : Int) (a1_3 : Int) (a1_4 : Int) (a1_5 : Int) (r : Int) (w : World) (hL : Laid w) (h : dec_row_lay.f a0_0 a0_1 a0_2 a0_3 a1_0 a1_1 a1_2 a1_3 a1_4 a1_5 = some r) :
    Calls Tryd.prog 31 #[.agg #[.string a0_0, .int .u32 a0_1, .int .u32 a0_2, .string a0_3], .agg #[.string a1_0, .int .i64 a1_1, .int .i64 a1_2, .int .i64 a1_3, .int .i64 a1_4, .int .u32 a1_5]] w fun e w' => e = .returned (.int .u32 r) ∧ Below w.heap.size w w' := by
  unfold dec_row_lay.f at h
  cases hi : infoOf a0_3.toList with
  | none =>
    rw [hi] at h
    cases h
  | some q =>
    rw [hi] at h
    simp only [Option.map_some, Option.some.injEq] at h
    subst h
    obtain ⟨h1, h2, h3, h4, h5⟩ := info_fits a0_3 q hi
    have he : q.1 = a0_3.toList := by simpa using List.find?_some hi
    exact row_lay.walk a0_0 a0_3 ⟨q.2.1.toArray⟩ a0_1 a0_2 q.2.2.1 q.2.2.2 a1_0 ⟨a1_1, a1_2, a1_3, a1_4, a1_5⟩ 6 w hL h1 h2 h3 h4 h5 (layFields q ⟨a1_1, a1_2, a1_3, a1_4, a1_5⟩) rfl (fixedOf q.1 a0_1 a0_2 (layFields q ⟨a1_1, a1_2, a1_3, a1_4, a1_5⟩)) (by rw [he])
end Go.Proofs.YtnddjndgfaefaaaDoor.F
end
