/- The package-level table of blanks reads as the program's text lays it; a text's words; whether a word is among them. No condition. -/
import Derived.Test.YtommcnppgodhgaaDoorF0
import Derived.Test.YtommcnppgodhgaaDoorLays
import Derived.Test.YtommcnppgodhgaaDoorFSlicesContainsStringString
import Derived.Lib.LaidTab
import Derived.Below
import Derived.Shelf.Abstract
import Derived.RangeFuncRecord
namespace Go.Proofs.YtommcnppgodhgaaDoor.F
open Go.RowKit Go.Shelf Go.Proofs.YtommcnppgodhgaaDoorW.PrintWords
set_option linter.unusedVariables false
/-- the table of ASCII blanks is there -/
def Laid (w : World) : Prop := Lib.TabIs Tryd.prog w "strings.asciiSpace" .u8 Lib.asciiSpaceTab
theorem Laid.below {w w' : World} (h : Laid w) (hb : Below w.heap.size w w') : Laid w' := by
  have h0 : w.var? Tryd.prog "strings.asciiSpace" = _ := h
  show w'.var? Tryd.prog "strings.asciiSpace" = _
  unfold World.var? at h0 ⊢
  cases hg : Tryd.prog.globalNamed "strings.asciiSpace" with
  | none =>
    rw [hg] at h0
    cases h0
  | some g =>
    rw [hg] at h0
    simp only [Option.bind_some] at h0 ⊢
    have hlt : g < w.heap.size := by
      rcases Nat.lt_or_ge g w.heap.size with h' | h'
      · exact h'
      · rw [Array.getElem?_eq_none h'] at h0
        cases h0
    rw [hb.block g hlt]
    exact h0
theorem Laid.drawn {w w' : World} (h : Laid w) (hd : Drawn0 w w') : Laid w' := h.below (Drawn0.below hd)
theorem index_aux (l : List ByteArray) (x : ByteArray) (hl : l.length < 1000000) : ∀ (m k i : Nat), l.length - i = m → m < k → i ≤ l.length →
    (slices_Index_string_string.l0 k l x (l.length : Int) (i : Int)).map (fun t => decide (t ≥ 0)) = some (decide (x.toList ∈ (l.drop i).map ByteArray.toList))
  | 0, k + 1, i, h, _, hi => by
    have : i = l.length := by omega
    subst this
    unfold slices_Index_string_string.l0
    simp
  | m + 1, k + 1, i, h, hk, hi => by
    have hlt : i < l.length := by omega
    unfold slices_Index_string_string.l0
    have h1 : (i : Int) < (l.length : Int) := by omega
    have h2 : (0 : Int) ≤ (i : Int) := by omega
    rw [if_pos h1, if_pos h2, if_pos h1]
    have e : rdOf ByteArray.empty l (i : Int) = l[i] := by
      unfold rdOf
      simp [hlt]
    rw [e]
    have hw : wrap64 ((i : Int) + 1) = ((i + 1 : Nat) : Int) := by
      unfold wrap64
      omega
    have hd : l.drop i = l[i] :: l.drop (i + 1) := (List.drop_eq_getElem_cons hlt)
    by_cases hx : x.toList = l[i].toList
    · rw [if_pos hx]
      rw [hd, List.map_cons, hx]
      simp only [List.mem_cons, true_or, decide_true, Option.map_some, ge_iff_le, h2]
    · rw [if_neg hx, hw, index_aux l x hl m k (i + 1) (by omega) (by omega) (by omega), hd, List.map_cons]
      simp only [List.mem_cons, hx, false_or]
theorem contains_words (l : List ByteArray) (x : ByteArray) (k : Nat) (hk : l.length < k) (hl : l.length < 1000000) :
    slices_Contains_string_string.f k l x = some (decide (x.toList ∈ l.map ByteArray.toList)) := by
  have h := index_aux l x hl (l.length - 0) k 0 rfl (by omega) (by omega)
  unfold slices_Contains_string_string.f slices_Index_string_string.f
  cases hq : slices_Index_string_string.l0 k l x (l.length : Int) 0 with
  | none => rw [show ((0 : Nat) : Int) = 0 from rfl, hq] at h; cases h
  | some t =>
    rw [show ((0 : Nat) : Int) = 0 from rfl, hq] at h
    simpa using h
/-- a text's words, one by one -/
def wordsOf (s : ByteArray) : List ByteArray := (Lib.fields s.data.toList).map (fun l => ⟨l.toArray⟩)
theorem words_read (w : World) (L : List ByteArray) (hl : L.length < 1000000) : Kd.C Kd.string (w.alloc (.cells (L.map Value.string).toArray 9)) (some ⟨w.heap.size, 0, none⟩) L.length L := by
  refine ⟨rfl, by omega, fun _ => ⟨_, rfl, fun j p hj => ⟨[.string p], rfl, rfl, fun i u hu => ?_⟩⟩⟩
  have hi : i = 0 ∧ u = .string p := by
    rcases i with _ | i
    · exact ⟨rfl, by simpa using hu.symm⟩
    · simp at hu
  obtain ⟨rfl, rfl⟩ := hi
  have hlt := (List.getElem?_eq_some_iff.1 hj).1
  have : World.cell? (w.alloc (.cells (L.map Value.string).toArray 9)) (Addr.add ⟨w.heap.size, 0, none⟩ (j * 1 + 0)) = some (.string p) := by
    have e : Addr.add ⟨w.heap.size, 0, none⟩ (j * 1 + 0) = ⟨w.heap.size, j, none⟩ := by
      unfold Addr.add
      rcases Nat.eq_zero_or_pos j with h0 | h0
      · subst h0
        simp
      · rw [if_neg (by omega)]
        simp
    rw [e]
    unfold World.cell?
    rw [show (w.alloc (.cells (L.map Value.string).toArray 9)).heap[(Addr.mk w.heap.size j none).block]? = _ from World.alloc_heap_new w _]
    simp [hj]
  exact this
/-- strings.Fields, an ASCII text's words in a new row -/
theorem fields_words (s : ByteArray) (w : World) (hs : s.size < 4294967281) (ha : s.data.toList.all (fun b => decide (b.toNat < 128)) = true) (hL : Laid w) :
    Calls Tryd.prog 33 #[.string s] w fun e w' => e = .returned (.slice (some ⟨w.heap.size, 0, none⟩) (wordsOf s).length (wordsOf s).length) ∧ w' = w.alloc (.cells ((wordsOf s).map Value.string).toArray 9) := by
  refine (Tryd.strings_Fields_laid s w hs (fun j b hj => by have := List.all_eq_true.1 ha b (List.mem_of_getElem? hj); simpa using this) hL).mono ?_
  rintro e w' ⟨rfl, rfl⟩
  have h1 : (Lib.fields s.data.toList).length = (wordsOf s).length := by simp only [wordsOf, List.length_map]
  have h2 : (Lib.fields s.data.toList).map (fun l => Value.string ⟨l.toArray⟩) = (wordsOf s).map Value.string := by simp only [wordsOf, List.map_map]; rfl
  rw [h1, h2]
  exact ⟨rfl, rfl⟩
end Go.Proofs.YtommcnppgodhgaaDoor.F
