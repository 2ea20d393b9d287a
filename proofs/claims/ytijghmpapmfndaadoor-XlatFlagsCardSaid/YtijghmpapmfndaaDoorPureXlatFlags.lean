/- The pure statement of the law XlatFlags, proved. No condition. -/
import Derived.Test.YtijghmpapmfndaaDoorQXlatFlags
import Derived.Test.YtijghmpapmfndaaDoorPXlat0
namespace Go.Proofs.YtijghmpapmfndaaDoor.F
open Go.RowKit Go.Proofs.YtijghmpapmfndaaDoorW.PrintWords Go.Proofs.YtijghmpapmfndaaDoorW.PrintLast Go.Proofs.YtijghmpapmfndaaDoorW.PrintMore
set_option linter.unusedVariables false
set_option linter.unusedSimpArgs false
theorem flags_awake : ∀ k, ferrylaw24_awake.f (k + 40) = some true := fun k => by
  have h : ferrylaw24_awake.f 40 = some true := by decide +kernel
  induction k with
  | zero => simpa using h
  | succ k ih => exact ferrylaw24_awake.mono (k + 40) _ ih
theorem or_zero_iff (a b m : BitVec 32) : ((a ||| b) &&& m = 0#32) ↔ (a &&& m = 0#32 ∧ b &&& m = 0#32) := by
  have e : (a ||| b) &&& m = (a &&& m) ||| (b &&& m) := by
    apply BitVec.eq_of_getLsbD_eq
    intro i hi
    simp only [BitVec.getLsbD_and, BitVec.getLsbD_or]
    cases a.getLsbD i <;> cases b.getLsbD i <;> cases m.getLsbD i <;> rfl
  rw [e]
  constructor
  · intro h
    have h2 : ∀ i : Nat, i < 32 → ((a &&& m).getLsbD i || (b &&& m).getLsbD i) = false := fun i hi => by
      rw [← BitVec.getLsbD_or, h]
      simp
    exact ⟨BitVec.eq_of_getLsbD_eq (fun i hi => by have := h2 i hi; simp only [Bool.or_eq_false_iff] at this; rw [this.1]; simp), BitVec.eq_of_getLsbD_eq (fun i hi => by have := h2 i hi; simp only [Bool.or_eq_false_iff] at this; rw [this.2]; simp)⟩
  · rintro ⟨h1, h2⟩
    rw [h1, h2]
    rfl
theorem dec_or (a b m : BitVec 32) : decide ((a ||| b) &&& m = 0#32) = (decide (a &&& m = 0#32) && decide (b &&& m = 0#32)) := by
  rw [Bool.eq_iff_iff]
  simp only [decide_eq_true_eq, Bool.and_eq_true]
  exact or_zero_iff a b m
theorem XlatFlags_pure : ferrylaw24_XlatFlags.Pure := by
  intro a b ha hb
  refine ⟨60, ?_⟩
  obtain ⟨x, rfl⟩ : ∃ x : BitVec 32, a = (x.toNat : Int) := ⟨BitVec.ofNat 32 a.toNat, by rw [BitVec.toNat_ofNat, Nat.mod_eq_of_lt (by omega)]; omega⟩
  obtain ⟨y, rfl⟩ : ∃ x : BitVec 32, b = (x.toNat : Int) := ⟨BitVec.ofNat 32 b.toNat, by rw [BitVec.toNat_ofNat, Nat.mod_eq_of_lt (by omega)]; omega⟩
  have n3 : Go.bits .andNot .u32 (y.toNat : Int) 3 = ((y &&& ~~~3#32).toNat : Int) := bv_not y 3#32
  unfold ferrylaw24_XlatFlags.f
  rw [n3, bv_or]
  have y3 : (y &&& ~~~3#32) &&& 3#32 = 0#32 := by rw [BitVec.and_assoc]; simp
  generalize y &&& ~~~3#32 = z at y3
  have hx := xlat_flags x 53
  have hz := xlat_flags z 53
  have ho := xlat_flags (x ||| z) 53
  have l3 : (x ||| z) &&& 3#32 = x &&& 3#32 := by
    apply BitVec.eq_of_getLsbD_eq
    intro i hi
    have h := congrArg (fun v => v.getLsbD i) y3
    simp only [BitVec.getLsbD_and, BitVec.getLsbD_or] at h ⊢
    revert h
    simp only [BitVec.getLsbD_zero]
    cases x.getLsbD i <;> cases z.getLsbD i <;> cases (3#32).getLsbD i <;> simp
  have z3 : ¬ z &&& 3#32 = 3#32 := by
    rw [y3]
    decide
  have o0 := or_zero_iff x z (~~~100235#32)
  have fz : flagsOf z = if z &&& ~~~100235#32 = 0#32 then (outOf z, true) else (0, false) := by
    unfold flagsOf
    rw [if_neg z3]
  have aw := flags_awake 19
  rw [hx, hz, ho, Option.bind_some, Option.bind_some, Option.bind_some, fz]
  unfold flagsOf
  rw [l3]
  by_cases h1 : x &&& ~~~100235#32 = 0#32
  · rw [if_pos h1]
    by_cases h2 : x &&& 3#32 = 3#32
    · rw [if_pos h2, if_pos h2, ite_self]
      simp only [Bool.false_eq_true, if_false]
      unfold ferrylaw24_XlatFlags.j0
      simp [aw]
    · rw [if_neg h2, if_neg h2]
      by_cases h3 : z &&& ~~~100235#32 = 0#32
      · rw [if_pos h3, if_pos (o0.2 ⟨h1, h3⟩)]
        simp only [if_true, Bool.not_true]
        unfold ferrylaw24_XlatFlags.j0
        have he : outOf (x ||| z) = Go.bits .or .i64 (outOf x) (outOf z) := by
          have hb := both_out ⟨(x &&& 3#32).toNat, low_small x⟩ (decide (x &&& 8#32 = 0#32)) (decide (x &&& 128#32 = 0#32)) (decide (x &&& 256#32 = 0#32)) (decide (x &&& 512#32 = 0#32)) (decide (x &&& 1024#32 = 0#32)) (decide (x &&& 65536#32 = 0#32)) (decide (z &&& 8#32 = 0#32)) (decide (z &&& 128#32 = 0#32)) (decide (z &&& 256#32 = 0#32)) (decide (z &&& 512#32 = 0#32)) (decide (z &&& 1024#32 = 0#32)) (decide (z &&& 65536#32 = 0#32))
          unfold outOf
          rw [l3, dec_or, dec_or, dec_or, dec_or, dec_or, dec_or, y3]
          exact hb
        simp [he, aw]
      · rw [if_neg h3, if_neg (fun e => h3 (o0.1 e).2)]
        simp only [if_true, Bool.not_false]
        unfold ferrylaw24_XlatFlags.j0
        simp [aw]
  · rw [if_neg h1, if_neg (fun e => h1 (o0.1 e).1)]
    simp only [Bool.false_eq_true, if_false]
    unfold ferrylaw24_XlatFlags.j0
    simp [aw]
end Go.Proofs.YtijghmpapmfndaaDoor.F
