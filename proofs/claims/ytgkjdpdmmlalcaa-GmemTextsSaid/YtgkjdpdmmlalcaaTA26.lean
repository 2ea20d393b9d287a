import Derived.Test.YtgkjdpdmmlalcaaTZF0
section
namespace Go.Proofs
open Go.Shelf
def Try.lays144_ren : Go.Shelf.Ren := ⟨fun | 144 => 29 | 143 => 61 | 219 => 88 | 217 => 112 | 225 => 113 | 224 => 114 | 267 => 115 | 266 => 146 | 314 => 147 | n => n, fun | 9 => 9 | 4 => 4 | 3 => 3 | 5 => 5 | 46 => 47 | 146 => 186 | 51 => 30 | n => n, fun | 1 => 0 | n => n⟩
theorem Try.lays144 : Go.Proofs.Lays.n144 Try.prog Try.lays144_ren := {
  mixed := by kernel_rfl
  f143 := Try.func61.trans (congrArg some (by kernel_rfl))
  f144 := Try.func29.trans (congrArg some (by kernel_rfl))
  f217 := Try.func112.trans (congrArg some (by kernel_rfl))
  f219 := Try.func88.trans (congrArg some (by kernel_rfl))
  f224 := Try.func114.trans (congrArg some (by kernel_rfl))
  f225 := Try.func113.trans (congrArg some (by kernel_rfl))
  f266 := Try.func146.trans (congrArg some (by kernel_rfl))
  f267 := Try.func115.trans (congrArg some (by kernel_rfl))
  f314 := Try.func147.trans (congrArg some (by kernel_rfl))
  t3 := Try.underlying3
  a3 := Try.isAgg3
  z3 := Try.sizeOf3
  v3 := Try.zeroValue3
  t4 := Try.underlying4
  a4 := Try.isAgg4
  z4 := Try.sizeOf4
  v4 := Try.zeroValue4
  t5 := Try.underlying5
  a5 := Try.isAgg5
  z5 := Try.sizeOf5
  v5 := Try.zeroValue5
  t9 := Try.underlying9
  a9 := Try.isAgg9
  z9 := Try.sizeOf9
  v9 := Try.zeroValue9
  t46 := Try.underlying47
  a46 := Try.isAgg47
  z46 := Try.sizeOf47
  v46 := Try.zeroValue47
  t51 := Try.underlying30
  a51 := Try.isAgg30
  z51 := Try.sizeOf30
  v51 := Try.zeroValue30
  t146 := Try.underlying186
  a146 := Try.isAgg186
  z146 := Try.sizeOf186
  v146 := Try.zeroValue186
  g1 := by kernel_rfl }
open Go.RowKit Go.Lib in
theorem Try.strings_Contains_one (s : ByteArray) (c : UInt8) (w : World) :
    Calls Try.prog 29 #[.string s, .string ⟨#[c]⟩] w fun e w' => e = .returned (.bool (decide (0 ≤ Lib.indexByte s.data.toList c))) ∧ w' = w := Any.strings_Contains_one Try.lays144 s c w
end Go.Proofs
end
section
namespace Go.Proofs.Ytgkjdpdmmlalcaa.F
open Go.RowKit Go.Shelf Go.Proofs.YtgkjdpdmmlalcaaW.PrintWords Go.Proofs.YtgkjdpdmmlalcaaW.PrintLast Go.Proofs.YtgkjdpdmmlalcaaW.PrintMore
set_option linter.unusedVariables false
-- HAND fn=strings.Contains ; rounds=0 ; making=0 ; laid=0
def strings_Contains.f (s t : ByteArray) : Option Bool := match t.data.toList with
  | [c] => some (decide (c ∈ s.data.toList))
  | _ => none
theorem indexByte_mem (l : List UInt8) (c : UInt8) : 0 ≤ Lib.indexByte l c ↔ c ∈ l := by
  induction l with
  | nil => simp [Lib.indexByte]
  | cons b l ih =>
    have hg := Lib.indexByte_ge l c
    unfold Lib.indexByte
    by_cases h : b = c
    · subst h
      simp
    have h1 : (b == c) = false := by simpa using h
    rw [h1, if_neg (by decide), List.mem_cons]
    have h3 : ¬ c = b := fun e => h e.symm
    by_cases h2 : Lib.indexByte l c = -1
    · have h4 : (Lib.indexByte l c == -1) = true := by simpa using h2
      rw [h4, if_pos rfl]
      constructor
      · intro h5
        exact absurd h5 (by decide)
      · intro h5
        exact absurd (ih.2 (h5.resolve_left h3)) (by omega)
    have h4 : (Lib.indexByte l c == -1) = false := by simpa using h2
    rw [h4, if_neg (by decide)]
    constructor
    · intro h5
      exact .inr (ih.1 (by omega))
    · intro h5
      have := ih.2 (h5.resolve_left h3)
      omega
theorem strings_Contains.calls (s t : ByteArray) (r : Bool) (w : World) (h : strings_Contains.f s t = some r) : Calls Try.prog 29 #[.string s, .string t] w fun e w' => e = .returned (.bool r) ∧ Drawn0 w w' := by
  obtain ⟨⟨tl⟩⟩ := t
  unfold strings_Contains.f at h
  dsimp only at h
  split at h
  · rename_i c
    refine (Try.strings_Contains_one s c w).mono ?_
    rintro e w' ⟨rfl, rfl⟩
    have h2 := Option.some.inj h
    refine ⟨?_, Drawn0.refl _⟩
    rw [← h2]
    congr 2
    simp only [indexByte_mem]
  · cases h
end Go.Proofs.Ytgkjdpdmmlalcaa.F
end
