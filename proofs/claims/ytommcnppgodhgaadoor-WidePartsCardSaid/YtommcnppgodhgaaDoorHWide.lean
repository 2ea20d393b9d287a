/- Package wide: whether a name is one of its instructions'; quotients; Hi and Lo behind an instruction. Condition: the table of blanks. -/
import Derived.WalkKit
import Derived.RangeFuncRecord
import Derived.ProofKit
import Derived.Shelf.RegionOpen
import Derived.Shelf.Abstract
import Derived.OwnWalkIn
import Derived.Lib.Hide
import Derived.Test.YtommcnppgodhgaaDoorF0
import Derived.Test.YtommcnppgodhgaaDoorLaid
import Derived.Test.YtommcnppgodhgaaDoorFSlicesContainsStringString
import Derived.Test.YtommcnppgodhgaaDoorFStringsCutSuffix
import Derived.Test.YtommcnppgodhgaaDoorFWidePart
namespace Go.Proofs.YtommcnppgodhgaaDoor.F
open Go.RowKit Go.Shelf Go.Proofs.YtommcnppgodhgaaDoorW.PrintWords
set_option linter.unusedVariables false
set_option linter.unusedSimpArgs false

/-- the instructions that make Hi and Lo -/
def wideNames : List (List UInt8) := [[109, 117, 108, 116], [109, 117, 108, 116, 117], [100, 105, 118], [100, 105, 118, 117], [109, 97, 100, 100], [109, 97, 100, 100, 117], [109, 115, 117, 98], [109, 115, 117, 98, 117], [109, 116, 104, 105], [109, 116, 108, 111]]
-- HAND fn=ferry/wide.Known ; rounds=0 ; making=1 ; laid=1
def wide_Known.f (a0 : ByteArray) : Option Bool := some (decide (a0.toList ∈ wideNames))
theorem wideNames_of : (wordsOf ⟨#[109, 117, 108, 116, 32, 109, 117, 108, 116, 117, 32, 100, 105, 118, 32, 100, 105, 118, 117, 32, 109, 97, 100, 100, 32, 109, 97, 100, 100, 117, 32, 109, 115, 117, 98, 32, 109, 115, 117, 98, 117, 32, 109, 116, 104, 105, 32, 109, 116, 108, 111]⟩).map ByteArray.toList = wideNames := by decide +kernel
set_option maxHeartbeats 4000000 in
set_option maxRecDepth 100000 in
theorem wide_Known.calls (a0 : ByteArray) (r : Bool) (w : World) (hL : Laid w) (h : wide_Known.f a0 = some r) :
    Calls Tryd.prog 10 #[.string a0] w fun e w' => e = .returned (.bool r) ∧ Below w.heap.size w w' := by
  have HR : slices_Contains_string_string.f 1000 (wordsOf ⟨#[109, 117, 108, 116, 32, 109, 117, 108, 116, 117, 32, 100, 105, 118, 32, 100, 105, 118, 117, 32, 109, 97, 100, 100, 32, 109, 97, 100, 100, 117, 32, 109, 115, 117, 98, 32, 109, 115, 117, 98, 117, 32, 109, 116, 104, 105, 32, 109, 116, 108, 111]⟩) a0 = some r := by
    rw [contains_words _ _ _ (by decide +kernel) (by decide +kernel), wideNames_of]
    exact h
  have HC := words_read w (wordsOf ⟨#[109, 117, 108, 116, 32, 109, 117, 108, 116, 117, 32, 100, 105, 118, 32, 100, 105, 118, 117, 32, 109, 97, 100, 100, 32, 109, 97, 100, 100, 117, 32, 109, 115, 117, 98, 32, 109, 115, 117, 98, 117, 32, 109, 116, 104, 105, 32, 109, 116, 108, 111]⟩) (by decide +kernel)
  have HF := Lib.hid (fields_words ⟨#[109, 117, 108, 116, 32, 109, 117, 108, 116, 117, 32, 100, 105, 118, 32, 100, 105, 118, 117, 32, 109, 97, 100, 100, 32, 109, 97, 100, 100, 117, 32, 109, 115, 117, 98, 32, 109, 115, 117, 98, 117, 32, 109, 116, 104, 105, 32, 109, 116, 108, 111]⟩ w (by decide) (by decide +kernel) hL)
  have hb : Below w.heap.size w (w.alloc (.cells ((wordsOf ⟨#[109, 117, 108, 116, 32, 109, 117, 108, 116, 117, 32, 100, 105, 118, 32, 100, 105, 118, 117, 32, 109, 97, 100, 100, 32, 109, 97, 100, 100, 117, 32, 109, 115, 117, 98, 32, 109, 115, 117, 98, 117, 32, 109, 116, 104, 105, 32, 109, 116, 108, 111]⟩).map Value.string).toArray 9)) := (Below.refl _ w).alloc (Nat.le_refl _) _
  clear h
  generalize hW : wordsOf ⟨#[109, 117, 108, 116, 32, 109, 117, 108, 116, 117, 32, 100, 105, 118, 32, 100, 105, 118, 117, 32, 109, 97, 100, 100, 32, 109, 97, 100, 100, 117, 32, 109, 115, 117, 98, 32, 109, 115, 117, 98, 117, 32, 109, 116, 104, 105, 32, 109, 116, 108, 111]⟩ = W at HR HC HF hb
  clear hW
  go_enter Tryd.func10, Tryd.ntmps10
  go_wp2_with (first
    | (go_at_call 33; refine HF.out.mono ?_; rintro e w' ⟨rfl, rfl⟩)
    | (go_at_call 32; refine (slices_Contains_string_string.calls 1000 _ _ W a0 r _ HC (Nat.le_refl _) HR).mono ?_; rintro e w' ⟨rfl, hd⟩))
  go_ret
  exact ⟨rfl, hb.trans ((Drawn0.below hd).mono (by simp))⟩
/-- a number as it is read: without a sign, or with one -/
def wideRd (u : Bool) (n : Int) : Int := if u then wrap64 n else wrap64 (wrap32 n)
set_option maxHeartbeats 4000000 in
theorem wide_read.calls (u : Bool) (n : Int) (w : World) :
    Calls Tryd.prog (if u then 24 else 22) #[.int .u32 n] w fun e w' => e = .returned (.int .i64 (wideRd u n)) ∧ Drawn0 w w' := by
  cases u
  · show Calls Tryd.prog 22 _ _ _
    go_enter Tryd.func22, Tryd.ntmps22
    go_wp2
    go_ret
    exact ⟨rfl, Drawn0.refl _⟩
  · show Calls Tryd.prog 24 _ _ _
    go_enter Tryd.func24, Tryd.ntmps24
    go_wp2
    go_ret
    exact ⟨rfl, Drawn0.refl _⟩
/-- the product, as 64 bits -/
def wideTimes (u : Bool) (s t : Int) : Int := IntKind.u64.wrap (IntKind.u64.wrap (wideRd u s) * IntKind.u64.wrap (wideRd u t))
set_option maxHeartbeats 4000000 in
theorem wide_times.calls (pr ps pt : Addr) (u : Bool) (s t : Int) (w : World) (h1 : w.cell? pr = some (.func (.func (if u then 24 else 22)) #[] #[]))
    (h2 : w.cell? ps = some (.int .u32 s)) (h3 : w.cell? pt = some (.int .u32 t)) :
    Calls Tryd.prog 25 #[.pointer (some pr), .pointer (some ps), .pointer (some pt)] w fun e w' => e = .returned (.int .u64 (wideTimes u s t)) ∧ Drawn0 w w' := by
  cases u
  · have R1 := Lib.hid (fun w => wide_read.calls false s w)
    have R2 := Lib.hid (fun w => wide_read.calls false t w)
    unfold wideTimes
    generalize wideRd false s = x1 at R1
    generalize wideRd false t = x2 at R2
    replace h1 : w.cell? pr = some (.func (.func 22) #[] #[]) := h1
    go_enter Tryd.func25, Tryd.ntmps25
    go_wp2
    repeat (go_quiet (first
      | (go_at_call 22; refine (R1.out _).mono ?_; rintro e w' ⟨rfl, ⟨nd, rfl⟩⟩; exact ⟨rfl, _, World.drewN_drewN _ _ _⟩)
      | (go_at_call 22; refine (R2.out _).mono ?_; rintro e w' ⟨rfl, ⟨nd, rfl⟩⟩; exact ⟨rfl, _, World.drewN_drewN _ _ _⟩)); try go_wp2)
    go_ret
    exact ⟨rfl, ⟨nq, rfl⟩⟩
  · have R1 := Lib.hid (fun w => wide_read.calls true s w)
    have R2 := Lib.hid (fun w => wide_read.calls true t w)
    unfold wideTimes
    generalize wideRd true s = x1 at R1
    generalize wideRd true t = x2 at R2
    replace h1 : w.cell? pr = some (.func (.func 24) #[] #[]) := h1
    go_enter Tryd.func25, Tryd.ntmps25
    go_wp2
    repeat (go_quiet (first
      | (go_at_call 24; refine (R1.out _).mono ?_; rintro e w' ⟨rfl, ⟨nd, rfl⟩⟩; exact ⟨rfl, _, World.drewN_drewN _ _ _⟩)
      | (go_at_call 24; refine (R2.out _).mono ?_; rintro e w' ⟨rfl, ⟨nd, rfl⟩⟩; exact ⟨rfl, _, World.drewN_drewN _ _ _⟩)); try go_wp2)
    go_ret
    exact ⟨rfl, ⟨nq, rfl⟩⟩
/-- what is left, and the quotient -/
def wideQuo (u : Bool) (s t : Int) : Option (Int × Int) := if t = 0 then some (s, 4294967295) else (if wideRd u t = 0 then none else some (Int.tmod (wideRd u s) (wideRd u t) % 4294967296, wrap64 (Int.tdiv (wideRd u s) (wideRd u t)) % 4294967296))
set_option maxHeartbeats 4000000 in
theorem wide_quotient.calls (u : Bool) (s t r1 r2 : Int) (w : World) (h : wideQuo u s t = some (r1, r2)) :
    Calls Tryd.prog 27 #[.int .u32 s, .int .u32 t, .func (.func (if u then 24 else 22)) #[] #[]] w fun e w' => e = .returned (.tuple #[.int .u32 r1, .int .u32 r2]) ∧ Drawn0 w w' := by
  cases u
  · have R1 := Lib.hid (fun w => wide_read.calls false s w)
    have R2 := Lib.hid (fun w => wide_read.calls false t w)
    unfold wideQuo at h
    generalize wideRd false s = x1 at R1 h
    generalize wideRd false t = x2 at R2 h
    by_cases h0 : t = 0
    · rw [if_pos h0] at h
      subst h0
      obtain ⟨rfl, rfl⟩ := Prod.mk.inj (Option.some.inj h)
      show Calls _ _ #[_, _, .func (.func 22) #[] #[]] _ _
      go_enter Tryd.func27, Tryd.ntmps27
      go_wp2
      go_ret2
      exact ⟨rfl, Drawn0.refl _⟩
    · rw [if_neg h0] at h
      by_cases h1 : x2 = 0
      · rw [if_pos h1] at h
        cases h
      · rw [if_neg h1] at h
        obtain ⟨rfl, rfl⟩ := Prod.mk.inj (Option.some.inj h)
        show Calls _ _ #[_, _, .func (.func 22) #[] #[]] _ _
        go_enter Tryd.func27, Tryd.ntmps27
        go_wp2
        repeat (go_quiet (first
          | (go_at_call 22; refine (R1.out _).mono ?_; rintro e w' ⟨rfl, ⟨nd, rfl⟩⟩; exact ⟨rfl, _, World.drewN_drewN _ _ _⟩)
          | (go_at_call 22; refine (R2.out _).mono ?_; rintro e w' ⟨rfl, ⟨nd, rfl⟩⟩; exact ⟨rfl, _, World.drewN_drewN _ _ _⟩)); try go_wp2)
        go_ret2
        exact ⟨rfl, ⟨nq, rfl⟩⟩
  · have R1 := Lib.hid (fun w => wide_read.calls true s w)
    have R2 := Lib.hid (fun w => wide_read.calls true t w)
    unfold wideQuo at h
    generalize wideRd true s = x1 at R1 h
    generalize wideRd true t = x2 at R2 h
    by_cases h0 : t = 0
    · rw [if_pos h0] at h
      subst h0
      obtain ⟨rfl, rfl⟩ := Prod.mk.inj (Option.some.inj h)
      show Calls _ _ #[_, _, .func (.func 24) #[] #[]] _ _
      go_enter Tryd.func27, Tryd.ntmps27
      go_wp2
      go_ret2
      exact ⟨rfl, Drawn0.refl _⟩
    · rw [if_neg h0] at h
      by_cases h1 : x2 = 0
      · rw [if_pos h1] at h
        cases h
      · rw [if_neg h1] at h
        obtain ⟨rfl, rfl⟩ := Prod.mk.inj (Option.some.inj h)
        show Calls _ _ #[_, _, .func (.func 24) #[] #[]] _ _
        go_enter Tryd.func27, Tryd.ntmps27
        go_wp2
        repeat (go_quiet (first
          | (go_at_call 24; refine (R1.out _).mono ?_; rintro e w' ⟨rfl, ⟨nd, rfl⟩⟩; exact ⟨rfl, _, World.drewN_drewN _ _ _⟩)
          | (go_at_call 24; refine (R2.out _).mono ?_; rintro e w' ⟨rfl, ⟨nd, rfl⟩⟩; exact ⟨rfl, _, World.drewN_drewN _ _ _⟩)); try go_wp2)
        go_ret2
        exact ⟨rfl, ⟨nq, rfl⟩⟩
end Go.Proofs.YtommcnppgodhgaaDoor.F
