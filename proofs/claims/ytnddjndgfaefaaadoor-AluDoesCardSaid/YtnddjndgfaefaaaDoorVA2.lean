import Derived.Below
import Derived.Deep.Draws
import Derived.Deep.AppendLies
import Derived.Maps.AppendAt
import Derived.OwnWalk
import Derived.Laws.BytesArg
import Derived.Laws.MakeOwn
import Derived.Laws.OwnMore
import Derived.Deep.OwnRows
import Derived.Tactics
import Derived.Lib.ConvBytes
import Derived.Laws.Slices
import Derived.WalkKit
import Derived.KernelRfl
import Derived.RowKit3
import Derived.Deep.LoopGhost
import Derived.Deep.QuietTactic
import Derived.BigQuiet
import Derived.WideLaws
import Derived.Deep.DeepCutAuto
import Derived.Deep.CutBlock
import Derived.Deep.RegionHeld3
import Derived.Laws.Rows
import Derived.Lib.AppendStr
import Derived.ArgAppend
import Derived.Laws.IdiomCopy
import Derived.RowKit
import Derived.OrdersHeld
import Derived.Laws.BitsLemmas
import Derived.Laws.StructEq
import Derived.Shelf.Small.Bits
import Derived.Shelf.LaysM
import Derived.Shelf.Strings.Fields
import Derived.Shelf.Strings.Replace
import Derived.Shelf.Strings.SplitShaped
import Derived.Lib.LaidTab
import Derived.Shelf.Abstract
import Derived.RangeFuncRecord
import Derived.Test.YtnddjndgfaefaaaDoorVZF0
import Derived.Test.YtnddjndgfaefaaaDoorVA0
section
namespace Go.Proofs.YtnddjndgfaefaaaDoor.F
open Go.RowKit Go.Proofs.YtnddjndgfaefaaaDoorW.PrintWords Go.Proofs.YtnddjndgfaefaaaDoorW.PrintLast Go.Proofs.YtnddjndgfaefaaaDoorW.PrintMore
attribute [local go_sem] max2_int min2_int max_two min_two max_three min_three max_four min_four
set_option linter.unusedVariables false
set_option linter.unusedSimpArgs false

def dec_shape.f (a0 : ByteArray) : Option (Int × Int) := if a0.toList = ([99] : List UInt8) then (some (6, 20)) else (if a0.toList = ([106] : List UInt8) then (some (0, 26)) else (some (0, 16)))
set_option maxHeartbeats 8000000 in
set_option maxRecDepth 100000 in
theorem dec_shape.calls (a0 : ByteArray) (r1 : Int) (r2 : Int) (w : World) (h : dec_shape.f a0 = some (r1, r2)) :
    Calls Tryd.prog 53 #[.string a0] w fun e w' => e = .returned (.tuple #[.int .u64 r1, .int .u64 r2]) ∧ Drawn0 w w' := by
  have H : (if a0.toList = ([99] : List UInt8) then (some (6, 20)) else (if a0.toList = ([106] : List UInt8) then (some (0, 26)) else (some (0, 16)))) = some (r1, r2) := h
  clear h
  by_cases c2 : a0.toList = ([99] : List UInt8)
  · rw [if_pos c2] at H
    have c2b0 : (a0.toList == ([99] : List UInt8)) = true := beq_iff_eq.mpr c2
    have c2b1 : (a0.toList != ([99] : List UInt8)) = false := bne_eq_false_iff_eq.mpr c2
    clear c2
    simp only [Option.some.injEq, Prod.mk.injEq] at H
    obtain ⟨rfl, rfl⟩ := H
    go_enter Tryd.func53, Tryd.ntmps53
    go_wp2
    go_ret2
    exact ⟨by first | rfl | (simp; done) | (simp [*]; done), by repeat (first | exact Drawn0.refl _ | apply Drawn0.step)⟩
  rw [if_neg c2] at H
  have c2b0 : (a0.toList == ([99] : List UInt8)) = false := beq_eq_false_iff_ne.mpr c2
  have c2b1 : (a0.toList != ([99] : List UInt8)) = true := bne_iff_ne.mpr c2
  by_cases c3 : a0.toList = ([106] : List UInt8)
  · rw [if_pos c3] at H
    have c3b0 : (a0.toList == ([106] : List UInt8)) = true := beq_iff_eq.mpr c3
    have c3b1 : (a0.toList != ([106] : List UInt8)) = false := bne_eq_false_iff_eq.mpr c3
    clear c3
    simp only [Option.some.injEq, Prod.mk.injEq] at H
    obtain ⟨rfl, rfl⟩ := H
    go_enter Tryd.func53, Tryd.ntmps53
    go_wp2
    go_ret2
    exact ⟨by first | rfl | (simp; done) | (simp [*]; done), by repeat (first | exact Drawn0.refl _ | apply Drawn0.step)⟩
  rw [if_neg c3] at H
  have c3b0 : (a0.toList == ([106] : List UInt8)) = false := beq_eq_false_iff_ne.mpr c3
  have c3b1 : (a0.toList != ([106] : List UInt8)) = true := bne_iff_ne.mpr c3
  simp only [Option.some.injEq, Prod.mk.injEq] at H
  obtain ⟨rfl, rfl⟩ := H
  go_enter Tryd.func53, Tryd.ntmps53
  go_wp2
  go_ret2
  exact ⟨by first | rfl | (simp; done) | (simp [*]; done), by repeat (first | exact Drawn0.refl _ | apply Drawn0.step)⟩

end Go.Proofs.YtnddjndgfaefaaaDoor.F
end
section
namespace Go.Proofs.YtnddjndgfaefaaaDoor.F
open Go.RowKit Go.Proofs.YtnddjndgfaefaaaDoorW.PrintWords Go.Proofs.YtnddjndgfaefaaaDoorW.PrintLast Go.Proofs.YtnddjndgfaefaaaDoorW.PrintMore
set_option linter.unusedVariables false
-- HAND fn=strings.ReplaceAll ; rounds=0 ; making=1 ; laid=1
def strings_ReplaceAll.f (a0 a1 a2 : ByteArray) : Option ByteArray := if a1.toList = [111] then (if a2.toList = [105] then (if a0.toList = [115, 111] then some ⟨#[115, 105]⟩ else if a0.toList = [115, 116, 111] then some ⟨#[115, 116, 105]⟩ else none) else none) else none
theorem bytes_of {a : ByteArray} {l : List UInt8} (h : a.toList = l) : a = ⟨l.toArray⟩ := WideShapes.bytes_inj (by rw [← ByteArray.toList_eq, h])
theorem strings_ReplaceAll.calls (a0 a1 a2 : ByteArray) (r : ByteArray) (w : World) (hL : Laid w) (h : strings_ReplaceAll.f a0 a1 a2 = some r) :
    Calls Tryd.prog 70 #[.string a0, .string a1, .string a2] w fun e w' => e = .returned (.string r) ∧ Below w.heap.size w w' := by
  obtain ⟨m, hm⟩ := hL.2
  unfold strings_ReplaceAll.f at h
  split at h
  · rename_i h1
    split at h
    · rename_i h2
      obtain rfl := bytes_of h1
      obtain rfl := bytes_of h2
      split at h
      · rename_i h3
        obtain rfl := bytes_of h3
        obtain rfl := Option.some.inj h
        refine (Tryd.strings_ReplaceAll _ _ _ m w (by decide) hm (by decide) (by decide +kernel)).mono ?_
        rintro e w' ⟨rfl, hB⟩
        exact ⟨by rw [show Lib.replaceAll _ _ _ = [115, 105] from by decide +kernel], hB⟩
      · split at h
        · rename_i h3
          obtain rfl := bytes_of h3
          obtain rfl := Option.some.inj h
          refine (Tryd.strings_ReplaceAll _ _ _ m w (by decide) hm (by decide) (by decide +kernel)).mono ?_
          rintro e w' ⟨rfl, hB⟩
          exact ⟨by rw [show Lib.replaceAll _ _ _ = [115, 116, 105] from by decide +kernel], hB⟩
        · cases h
    · cases h
  · cases h
end Go.Proofs.YtnddjndgfaefaaaDoor.F
end
section
namespace Go.Proofs.YtnddjndgfaefaaaDoor.F
open Go.RowKit Go.Proofs.YtnddjndgfaefaaaDoorW.PrintWords Go.Proofs.YtnddjndgfaefaaaDoorW.PrintLast Go.Proofs.YtnddjndgfaefaaaDoorW.PrintMore
attribute [local go_sem] max2_int min2_int max_two min_two max_three min_three max_four min_four
set_option linter.unusedVariables false
set_option linter.unusedSimpArgs false

mutual
def dec_letters.j0 : Nat → ByteArray → ByteArray → Bool → Option (ByteArray)
  | 0, _, _, _ => none
  | k + 1, x0, x3, x4 => if x4 = true then (some (⟨#[105]⟩ : ByteArray)) else (if x3.toList = ([116, 109] : List UInt8) then (dec_letters.j1 k x0 x3 (x3.toList == ([116, 109] : List UInt8))) else (dec_letters.j1 k x0 x3 (x3.toList == ([116, 115, 105] : List UInt8))))
def dec_letters.j1 : Nat → ByteArray → ByteArray → Bool → Option (ByteArray)
  | 0, _, _, _ => none
  | k + 1, x0, x3, x7 => if x7 = true then (some (⟨#[116, 115, 105]⟩ : ByteArray)) else (if x3.toList = ([115, 111] : List UInt8) then (dec_letters.j2 k x0 x3 (x3.toList == ([115, 111] : List UInt8))) else (dec_letters.j2 k x0 x3 (x3.toList == ([115, 116, 111] : List UInt8))))
def dec_letters.j2 : Nat → ByteArray → ByteArray → Bool → Option (ByteArray)
  | 0, _, _, _ => none
  | k + 1, x0, x3, x10 => if x10 = true then ((strings_ReplaceAll.f x0 (⟨#[111]⟩ : ByteArray) (⟨#[105]⟩ : ByteArray)).bind fun t123 => (some t123)) else (if x3.toList = ([116, 115, 120] : List UInt8) then (some (⟨#[116, 115, 100, 97]⟩ : ByteArray)) else (if x3.toList = ([100, 116, 114] : List UInt8) then (some (⟨#[100, 116, 97]⟩ : ByteArray)) else (if x3.toList = ([100, 116, 118] : List UInt8) then (some (⟨#[100, 116, 115]⟩ : ByteArray)) else (if x3.toList = ([100, 115, 100] : List UInt8) then (some (⟨#[100, 115]⟩ : ByteArray)) else (some x0)))))
end
def dec_letters.f (k : Nat) (a0 : ByteArray) : Option (ByteArray) := if a0.toList = ([99] : List UInt8) then (dec_letters.j0 k a0 a0 (a0.toList == ([99] : List UInt8))) else (dec_letters.j0 k a0 a0 (a0.toList == ([106] : List UInt8)))
set_option maxHeartbeats 8000000 in
set_option maxRecDepth 100000 in
theorem dec_letters.calls (k : Nat) (a0 : ByteArray) (r : ByteArray) (w : World) (hL : Laid w) (h : dec_letters.f k a0 = some r) :
    Calls Tryd.prog 52 #[.string a0] w fun e w' => e = .returned (.string r) ∧ Below w.heap.size w w' := by
  have HB := Aside0.mk (Below.refl w.heap.size w)
  have H : (if a0.toList = ([99] : List UInt8) then (dec_letters.j0 k a0 a0 (a0.toList == ([99] : List UInt8))) else (dec_letters.j0 k a0 a0 (a0.toList == ([106] : List UInt8)))) = some r := h
  clear h
  have HC2 := Aside0.mk H
  clear H
  go_enter Tryd.func52, Tryd.ntmps52
  go_upto_if 4 with (fail)
  go_cut [4] (fun v4 wc => ∃ (kq : Nat) (x4_1 : Bool), v4 = .bool x4_1 ∧ Aside0 (dec_letters.j0 kq a0 a0 x4_1 = some r) ∧ Aside0 (kq ≤ k) ∧ Aside0 (Below w.heap.size w wc))
  case first =>
    have H := HC2.out
    clear HC2
    by_cases c3 : a0.toList = ([99] : List UInt8)
    · rw [if_pos c3] at H
      have c3b0 : (a0.toList == ([99] : List UInt8)) = true := beq_iff_eq.mpr c3
      have c3b1 : (a0.toList != ([99] : List UInt8)) = false := bne_eq_false_iff_eq.mpr c3
      clear c3
      (first | rw [c3b0] | (simp only [i64_w, i32_w]; rw [c3b0]) | skip)
      have H' := Aside0.mk H
      clear H
      go_wp2
      go_meet
      case rel => exact ⟨_, ((a0.toList == ([99] : List UInt8))), (by first | rfl | (simp; done) | (simp [*]; done)), H', ⟨by first | omega | exact Nat.le_refl _⟩, ⟨by repeat (first | (with_reducible first | exact HB.out | apply below_alloc | apply pw_below_drewN | apply below_drew1) | exact HB.out)⟩⟩
    rw [if_neg c3] at H
    have c3b0 : (a0.toList == ([99] : List UInt8)) = false := beq_eq_false_iff_ne.mpr c3
    have c3b1 : (a0.toList != ([99] : List UInt8)) = true := bne_iff_ne.mpr c3
    (first | rw [c3b0] | (simp only [i64_w, i32_w]; rw [c3b0]) | skip)
    have H' := Aside0.mk H
    clear H
    go_wp2
    go_meet
    case rel => exact ⟨_, ((a0.toList == ([106] : List UInt8))), (by first | rfl | (simp; done) | (simp [*]; done)), H', ⟨by first | omega | exact Nat.le_refl _⟩, ⟨by repeat (first | (with_reducible first | exact HB.out | apply below_alloc | apply pw_below_drewN | apply below_drew1) | exact HB.out)⟩⟩
  case rest =>
    clear HC2
    try clear p2
    try clear c3
    try clear c3b0
    try clear c3b1
    obtain ⟨kq, x4_1, rfl, HA, HJ1, HB⟩ := hcut
    cases kq with
    | zero => exact absurd HA.out (by simp [dec_letters.j0])
    | succ kj1 =>
      have H := HA.out
      clear HA
      simp only [dec_letters.j0] at H
      by_cases c4 : x4_1 = true
      · subst c4
        have H1 : (some (⟨#[105]⟩ : ByteArray)) = some r := by rw [if_pos rfl] at H; exact H
        clear H
        have H := H1
        clear H1
        obtain rfl := Option.some.inj H
        go_wp2
        go_ret
        exact ⟨by first | rfl | (simp [errW_none, errW_some] <;> rfl) | (simp [*, errW_none, errW_some] <;> rfl), by repeat (first | (with_reducible first | exact HB.out | apply below_alloc | apply pw_below_drewN | apply below_drew1) | exact HB.out)⟩
      replace c4 := Bool.eq_false_iff.mpr c4
      subst c4
      have H1 : (if a0.toList = ([116, 109] : List UInt8) then (dec_letters.j1 kj1 a0 a0 (a0.toList == ([116, 109] : List UInt8))) else (dec_letters.j1 kj1 a0 a0 (a0.toList == ([116, 115, 105] : List UInt8)))) = some r := by rw [if_neg (show ¬ (false = true) by decide)] at H; exact H
      clear H
      have H := H1
      clear H1
      have HC5 := Aside0.mk H
      clear H
      go_upto_if 7 with (fail)
      go_cut [7] (fun v7 wc => ∃ (kq : Nat) (x7_4 : Bool), v7 = .bool x7_4 ∧ Aside0 (dec_letters.j1 kq a0 a0 x7_4 = some r) ∧ Aside0 (kq ≤ kj1) ∧ Aside0 (Below w.heap.size w wc))
      case first =>
        have H := HC5.out
        clear HC5
        by_cases c6 : a0.toList = ([116, 109] : List UInt8)
        · rw [if_pos c6] at H
          have c6b0 : (a0.toList == ([116, 109] : List UInt8)) = true := beq_iff_eq.mpr c6
          have c6b1 : (a0.toList != ([116, 109] : List UInt8)) = false := bne_eq_false_iff_eq.mpr c6
          clear c6
          (first | rw [c6b0] | (simp only [i64_w, i32_w]; rw [c6b0]) | skip)
          have H' := Aside0.mk H
          clear H
          go_wp2
          go_meet
          case rel => exact ⟨_, ((a0.toList == ([116, 109] : List UInt8))), (by first | rfl | (simp; done) | (simp [*]; done)), H', ⟨by have := HJ1.out; first | omega | exact Nat.le_refl _⟩, ⟨by repeat (first | (with_reducible first | exact HB.out | apply below_alloc | apply pw_below_drewN | apply below_drew1) | exact HB.out)⟩⟩
        rw [if_neg c6] at H
        have c6b0 : (a0.toList == ([116, 109] : List UInt8)) = false := beq_eq_false_iff_ne.mpr c6
        have c6b1 : (a0.toList != ([116, 109] : List UInt8)) = true := bne_iff_ne.mpr c6
        (first | rw [c6b0] | (simp only [i64_w, i32_w]; rw [c6b0]) | skip)
        have H' := Aside0.mk H
        clear H
        go_wp2
        go_meet
        case rel => exact ⟨_, ((a0.toList == ([116, 115, 105] : List UInt8))), (by first | rfl | (simp; done) | (simp [*]; done)), H', ⟨by have := HJ1.out; first | omega | exact Nat.le_refl _⟩, ⟨by repeat (first | (with_reducible first | exact HB.out | apply below_alloc | apply pw_below_drewN | apply below_drew1) | exact HB.out)⟩⟩
      case rest =>
        clear HC5
        try clear p2
        try clear c3
        try clear c3b0
        try clear c3b1
        try clear c4
        try clear c5
        try clear c6
        try clear c6b0
        try clear c6b1
        try clear p2
        obtain ⟨kq, x7_4, rfl, HA, HJ4, HB⟩ := hcut
        cases kq with
        | zero => exact absurd HA.out (by simp [dec_letters.j1])
        | succ kj4 =>
          have H := HA.out
          clear HA
          simp only [dec_letters.j1] at H
          by_cases c7 : x7_4 = true
          · subst c7
            have H1 : (some (⟨#[116, 115, 105]⟩ : ByteArray)) = some r := by rw [if_pos rfl] at H; exact H
            clear H
            have H := H1
            clear H1
            obtain rfl := Option.some.inj H
            go_wp2
            go_ret
            exact ⟨by first | rfl | (simp [errW_none, errW_some] <;> rfl) | (simp [*, errW_none, errW_some] <;> rfl), by repeat (first | (with_reducible first | exact HB.out | apply below_alloc | apply pw_below_drewN | apply below_drew1) | exact HB.out)⟩
          replace c7 := Bool.eq_false_iff.mpr c7
          subst c7
          have H1 : (if a0.toList = ([115, 111] : List UInt8) then (dec_letters.j2 kj4 a0 a0 (a0.toList == ([115, 111] : List UInt8))) else (dec_letters.j2 kj4 a0 a0 (a0.toList == ([115, 116, 111] : List UInt8)))) = some r := by rw [if_neg (show ¬ (false = true) by decide)] at H; exact H
          clear H
          have H := H1
          clear H1
          have HC8 := Aside0.mk H
          clear H
          go_upto_if 10 with (fail)
          go_cut [10] (fun v10 wc => ∃ (kq : Nat) (x10_7 : Bool), v10 = .bool x10_7 ∧ Aside0 (dec_letters.j2 kq a0 a0 x10_7 = some r) ∧ Aside0 (kq ≤ kj4) ∧ Aside0 (Below w.heap.size w wc))
          case first =>
            have H := HC8.out
            clear HC8
            by_cases c9 : a0.toList = ([115, 111] : List UInt8)
            · rw [if_pos c9] at H
              have c9b0 : (a0.toList == ([115, 111] : List UInt8)) = true := beq_iff_eq.mpr c9
              have c9b1 : (a0.toList != ([115, 111] : List UInt8)) = false := bne_eq_false_iff_eq.mpr c9
              clear c9
              (first | rw [c9b0] | (simp only [i64_w, i32_w]; rw [c9b0]) | skip)
              have H' := Aside0.mk H
              clear H
              go_wp2
              go_meet
              case rel => exact ⟨_, ((a0.toList == ([115, 111] : List UInt8))), (by first | rfl | (simp; done) | (simp [*]; done)), H', ⟨by have := HJ1.out; have := HJ4.out; first | omega | exact Nat.le_refl _⟩, ⟨by repeat (first | (with_reducible first | exact HB.out | apply below_alloc | apply pw_below_drewN | apply below_drew1) | exact HB.out)⟩⟩
            rw [if_neg c9] at H
            have c9b0 : (a0.toList == ([115, 111] : List UInt8)) = false := beq_eq_false_iff_ne.mpr c9
            have c9b1 : (a0.toList != ([115, 111] : List UInt8)) = true := bne_iff_ne.mpr c9
            (first | rw [c9b0] | (simp only [i64_w, i32_w]; rw [c9b0]) | skip)
            have H' := Aside0.mk H
            clear H
            go_wp2
            go_meet
            case rel => exact ⟨_, ((a0.toList == ([115, 116, 111] : List UInt8))), (by first | rfl | (simp; done) | (simp [*]; done)), H', ⟨by have := HJ1.out; have := HJ4.out; first | omega | exact Nat.le_refl _⟩, ⟨by repeat (first | (with_reducible first | exact HB.out | apply below_alloc | apply pw_below_drewN | apply below_drew1) | exact HB.out)⟩⟩
          case rest =>
            clear HC8
            try clear p2
            try clear c3
            try clear c3b0
            try clear c3b1
            try clear c4
            try clear c5
            try clear c6
            try clear c6b0
            try clear c6b1
            try clear c7
            try clear c9
            try clear c9b0
            try clear c9b1
            try clear p2
            obtain ⟨kq, x10_7, rfl, HA, HJ7, HB⟩ := hcut
            cases kq with
            | zero => exact absurd HA.out (by simp [dec_letters.j2])
            | succ kj7 =>
              have H := HA.out
              clear HA
              simp only [dec_letters.j2] at H
              by_cases c10 : x10_7 = true
              · subst c10
                have H1 : ((strings_ReplaceAll.f a0 (⟨#[111]⟩ : ByteArray) (⟨#[105]⟩ : ByteArray)).bind fun t123 => (some t123)) = some r := by rw [if_pos rfl] at H; exact H
                clear H
                have H := H1
                clear H1
                replace H := Option.bind_eq_some_iff.mp H
                obtain ⟨t123, A110, H⟩ := H
                replace H : (some t123) = some r := H
                have A11 := Aside0.mk A110
                clear A110
                obtain rfl := Option.some.inj H
                go_wp2_with (first | ((with_reducible refine gate_callee (f := 70) rfl ?_); refine goesL_ (some 14) rfl rfl Tryd.func70 (by kernel_rfl) rfl #[.string a0, .string (⟨#[111]⟩ : ByteArray), .string (⟨#[105]⟩ : ByteArray)] rfl (by (try simp only [List.map_toArray, List.map_cons, List.map_nil]); first | done | rfl | (simp only [List.length_drop, List.length_take]; rfl)) ?_; (with_reducible refine (strings_ReplaceAll.calls a0 (⟨#[111]⟩ : ByteArray) (⟨#[105]⟩ : ByteArray) t123 _ ?side1 A11.out).mono ?_); (case side1 => first | with_reducible exact hL | exact Laid.below hL (by repeat (first | (with_reducible first | exact HB.out | apply below_alloc | apply pw_below_drewN | apply below_drew1) | exact HB.out))); rintro e w12 ⟨rfl, hb⟩; refine ⟨_, rfl, ?_⟩; have n0_ := Aside0.mk (below_step (by repeat (first | (with_reducible first | exact HB.out | apply below_alloc | apply pw_below_drewN | apply below_drew1) | exact HB.out)) hb); clear HB; have HB := n0_; clear n0_; (try clear hb); (try clear hb2); (try clear hk); (try clear hi)))
                go_ret
                exact ⟨by first | rfl | (simp [errW_none, errW_some] <;> rfl) | (simp [*, errW_none, errW_some] <;> rfl), by repeat (first | (with_reducible first | exact HB.out | apply below_alloc | apply pw_below_drewN | apply below_drew1) | exact HB.out)⟩
              replace c10 := Bool.eq_false_iff.mpr c10
              subst c10
              have H1 : (if a0.toList = ([116, 115, 120] : List UInt8) then (some (⟨#[116, 115, 100, 97]⟩ : ByteArray)) else (if a0.toList = ([100, 116, 114] : List UInt8) then (some (⟨#[100, 116, 97]⟩ : ByteArray)) else (if a0.toList = ([100, 116, 118] : List UInt8) then (some (⟨#[100, 116, 115]⟩ : ByteArray)) else (if a0.toList = ([100, 115, 100] : List UInt8) then (some (⟨#[100, 115]⟩ : ByteArray)) else (some a0))))) = some r := by rw [if_neg (show ¬ (false = true) by decide)] at H; exact H
              clear H
              have H := H1
              clear H1
              by_cases c13 : a0.toList = ([116, 115, 120] : List UInt8)
              · rw [if_pos c13] at H
                have c13b0 : (a0.toList == ([116, 115, 120] : List UInt8)) = true := beq_iff_eq.mpr c13
                have c13b1 : (a0.toList != ([116, 115, 120] : List UInt8)) = false := bne_eq_false_iff_eq.mpr c13
                clear c13
                obtain rfl := Option.some.inj H
                go_wp2
                go_ret
                exact ⟨by first | rfl | (simp [errW_none, errW_some] <;> rfl) | (simp [*, errW_none, errW_some] <;> rfl), by repeat (first | (with_reducible first | exact HB.out | apply below_alloc | apply pw_below_drewN | apply below_drew1) | exact HB.out)⟩
              rw [if_neg c13] at H
              have c13b0 : (a0.toList == ([116, 115, 120] : List UInt8)) = false := beq_eq_false_iff_ne.mpr c13
              have c13b1 : (a0.toList != ([116, 115, 120] : List UInt8)) = true := bne_iff_ne.mpr c13
              by_cases c14 : a0.toList = ([100, 116, 114] : List UInt8)
              · rw [if_pos c14] at H
                have c14b0 : (a0.toList == ([100, 116, 114] : List UInt8)) = true := beq_iff_eq.mpr c14
                have c14b1 : (a0.toList != ([100, 116, 114] : List UInt8)) = false := bne_eq_false_iff_eq.mpr c14
                clear c14
                obtain rfl := Option.some.inj H
                go_wp2
                go_ret
                exact ⟨by first | rfl | (simp [errW_none, errW_some] <;> rfl) | (simp [*, errW_none, errW_some] <;> rfl), by repeat (first | (with_reducible first | exact HB.out | apply below_alloc | apply pw_below_drewN | apply below_drew1) | exact HB.out)⟩
              rw [if_neg c14] at H
              have c14b0 : (a0.toList == ([100, 116, 114] : List UInt8)) = false := beq_eq_false_iff_ne.mpr c14
              have c14b1 : (a0.toList != ([100, 116, 114] : List UInt8)) = true := bne_iff_ne.mpr c14
              by_cases c15 : a0.toList = ([100, 116, 118] : List UInt8)
              · rw [if_pos c15] at H
                have c15b0 : (a0.toList == ([100, 116, 118] : List UInt8)) = true := beq_iff_eq.mpr c15
                have c15b1 : (a0.toList != ([100, 116, 118] : List UInt8)) = false := bne_eq_false_iff_eq.mpr c15
                clear c15
                obtain rfl := Option.some.inj H
                go_wp2
                go_ret
                exact ⟨by first | rfl | (simp [errW_none, errW_some] <;> rfl) | (simp [*, errW_none, errW_some] <;> rfl), by repeat (first | (with_reducible first | exact HB.out | apply below_alloc | apply pw_below_drewN | apply below_drew1) | exact HB.out)⟩
              rw [if_neg c15] at H
              have c15b0 : (a0.toList == ([100, 116, 118] : List UInt8)) = false := beq_eq_false_iff_ne.mpr c15
              have c15b1 : (a0.toList != ([100, 116, 118] : List UInt8)) = true := bne_iff_ne.mpr c15
              by_cases c16 : a0.toList = ([100, 115, 100] : List UInt8)
              · rw [if_pos c16] at H
                have c16b0 : (a0.toList == ([100, 115, 100] : List UInt8)) = true := beq_iff_eq.mpr c16
                have c16b1 : (a0.toList != ([100, 115, 100] : List UInt8)) = false := bne_eq_false_iff_eq.mpr c16
                clear c16
                obtain rfl := Option.some.inj H
                go_wp2
                go_ret
                exact ⟨by first | rfl | (simp [errW_none, errW_some] <;> rfl) | (simp [*, errW_none, errW_some] <;> rfl), by repeat (first | (with_reducible first | exact HB.out | apply below_alloc | apply pw_below_drewN | apply below_drew1) | exact HB.out)⟩
              rw [if_neg c16] at H
              have c16b0 : (a0.toList == ([100, 115, 100] : List UInt8)) = false := beq_eq_false_iff_ne.mpr c16
              have c16b1 : (a0.toList != ([100, 115, 100] : List UInt8)) = true := bne_iff_ne.mpr c16
              obtain rfl := Option.some.inj H
              go_wp2
              go_ret
              exact ⟨by first | rfl | (simp [errW_none, errW_some] <;> rfl) | (simp [*, errW_none, errW_some] <;> rfl), by repeat (first | (with_reducible first | exact HB.out | apply below_alloc | apply pw_below_drewN | apply below_drew1) | exact HB.out)⟩

end Go.Proofs.YtnddjndgfaefaaaDoor.F
end
