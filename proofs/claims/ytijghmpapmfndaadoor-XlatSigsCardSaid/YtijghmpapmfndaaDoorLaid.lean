/- The package-level table of blanks reads as the program's text lays it; a text's words; whether a word is among them. No condition. -/
import Derived.Test.YtijghmpapmfndaaDoorF0
import Derived.Test.YtijghmpapmfndaaDoorLays
import Derived.Lib.LaidTab
import Derived.Below
import Derived.Shelf.Abstract
import Derived.RangeFuncRecord
namespace Go.Proofs.YtijghmpapmfndaaDoor.F
open Go.RowKit Go.Shelf Go.Proofs.YtijghmpapmfndaaDoorW.PrintWords
set_option linter.unusedVariables false
/-- the table of ASCII blanks is there -/
def Tab (w : World) : Prop := Lib.TabIs Tryd.prog w "strings.asciiSpace" .u8 Lib.asciiSpaceTab
theorem Tab.below {w w' : World} (h : Tab w) (hb : Below w.heap.size w w') : Tab w' := by
  have h0 : w.var? Tryd.prog "strings.asciiSpace" = _ := h
  show w'.var? Tryd.prog "strings.asciiSpace" = _
  unfold World.var? at h0 ⊢
  cases hg : Tryd.prog.globalNamed "strings.asciiSpace" with
  | none =>
    rw [hg] at h0
    cases h0
  | some g =>
    rw [hg] at h0
    simp only [Option.bind_some] at h0 ⊢
    have hlt : g < w.heap.size := by
      rcases Nat.lt_or_ge g w.heap.size with h' | h'
      · exact h'
      · rw [Array.getElem?_eq_none h'] at h0
        cases h0
    rw [hb.block g hlt]
    exact h0
/-- the longest text that is searched by the machine's own means: some number -/
def MaxOk (w : World) : Prop := ∃ m : Int, w.cell? ⟨4, 0, none⟩ = some (.int .i64 m)
theorem MaxOk.below {w w' : World} (h : MaxOk w) (hb : Below w.heap.size w w') : MaxOk w' := ⟨h.choose, pw_cell_below hb h.choose_spec⟩
/-- what the row lists, and what each world of the program's has -/
def Laid (w : World) : Prop := Tab w ∧ MaxOk w
theorem Laid.below {w w' : World} (h : Laid w) (hb : Below w.heap.size w w') : Laid w' := ⟨h.1.below hb, h.2.below hb⟩
theorem Laid.drawn {w w' : World} (h : Laid w) (hd : Drawn0 w w') : Laid w' := h.below (Drawn0.below hd)
/-- a text's words, one by one -/
def wordsOf (s : ByteArray) : List ByteArray := (Lib.fields s.data.toList).map (fun l => ⟨l.toArray⟩)
theorem words_read (w : World) (L : List ByteArray) (hl : L.length < 1000000) : Kd.C Kd.string (w.alloc (.cells (L.map Value.string).toArray 9)) (some ⟨w.heap.size, 0, none⟩) L.length L := by
  refine ⟨rfl, by omega, fun _ => ⟨_, rfl, fun j p hj => ⟨[.string p], rfl, rfl, fun i u hu => ?_⟩⟩⟩
  have hi : i = 0 ∧ u = .string p := by
    rcases i with _ | i
    · exact ⟨rfl, by simpa using hu.symm⟩
    · simp at hu
  obtain ⟨rfl, rfl⟩ := hi
  have hlt := (List.getElem?_eq_some_iff.1 hj).1
  have : World.cell? (w.alloc (.cells (L.map Value.string).toArray 9)) (Addr.add ⟨w.heap.size, 0, none⟩ (j * 1 + 0)) = some (.string p) := by
    have e : Addr.add ⟨w.heap.size, 0, none⟩ (j * 1 + 0) = ⟨w.heap.size, j, none⟩ := by
      unfold Addr.add
      rcases Nat.eq_zero_or_pos j with h0 | h0
      · subst h0
        simp
      · rw [if_neg (by omega)]
        simp
    rw [e]
    unfold World.cell?
    rw [show (w.alloc (.cells (L.map Value.string).toArray 9)).heap[(Addr.mk w.heap.size j none).block]? = _ from World.alloc_heap_new w _]
    simp [hj]
  exact this
/-- strings.Fields, an ASCII text's words in a new row -/
theorem fields_words (s : ByteArray) (w : World) (hs : s.size < 4294967281) (ha : s.data.toList.all (fun b => decide (b.toNat < 128)) = true) (hL : Laid w) :
    Calls Tryd.prog 35 #[.string s] w fun e w' => e = .returned (.slice (some ⟨w.heap.size, 0, none⟩) (wordsOf s).length (wordsOf s).length) ∧ w' = w.alloc (.cells ((wordsOf s).map Value.string).toArray 9) := by
  refine (Tryd.strings_Fields_laid s w hs (fun j b hj => by have := List.all_eq_true.1 ha b (List.mem_of_getElem? hj); simpa using this) hL.1).mono ?_
  rintro e w' ⟨rfl, rfl⟩
  have h1 : (Lib.fields s.data.toList).length = (wordsOf s).length := by simp only [wordsOf, List.length_map]
  have h2 : (Lib.fields s.data.toList).map (fun l => Value.string ⟨l.toArray⟩) = (wordsOf s).map Value.string := by simp only [wordsOf, List.map_map]; rfl
  rw [h1, h2]
  exact ⟨rfl, rfl⟩
end Go.Proofs.YtijghmpapmfndaaDoor.F
