/- Flags of an opening, errors, calls: what both texts compute, in plain words. No condition. -/
import Derived.Test.YtijghmpapmfndaaDoorFXlatFlags
import Derived.Test.YtijghmpapmfndaaDoorFFerryref24Flags
import Derived.Test.YtijghmpapmfndaaDoorBits2
namespace Go.Proofs.YtijghmpapmfndaaDoor.F
open Go.RowKit Go.Proofs.YtijghmpapmfndaaDoorW.PrintWords Go.Proofs.YtijghmpapmfndaaDoorW.PrintLast Go.Proofs.YtijghmpapmfndaaDoorW.PrintMore
set_option linter.unusedVariables false
set_option linter.unusedSimpArgs false
theorem bv_and (x m : BitVec 32) : Go.bits .and .u32 (x.toNat : Int) (m.toNat : Int) = ((x &&& m).toNat : Int) := by
  rw [(bits_nat32 x.toNat m.toNat x.isLt m.isLt).1, BitVec.toNat_and]
theorem bv_or (x m : BitVec 32) : Go.bits .or .u32 (x.toNat : Int) (m.toNat : Int) = ((x ||| m).toNat : Int) := by
  rw [(bits_nat32 x.toNat m.toNat x.isLt m.isLt).2.1, BitVec.toNat_or]
theorem bv_not (x m : BitVec 32) : Go.bits .andNot .u32 (x.toNat : Int) (m.toNat : Int) = ((x &&& ~~~m).toNat : Int) := by
  rw [andNot32 x.toNat m.toNat x.isLt m.isLt, ← BitVec.toNat_and]
  have := bv_andNot x m
  omega
theorem bv_zero (x : BitVec 32) : ((x.toNat : Int) = 0) ↔ x = 0#32 := by
  constructor
  · intro h
    apply BitVec.eq_of_toNat_eq
    simpa using h
  · rintro rfl
    rfl
theorem bv_keep (y p : BitVec 32) (h : y &&& p = 0#32) : y &&& ~~~p = y := by
  apply BitVec.eq_of_toNat_eq
  have := bv_andNot y p
  rw [h] at this
  simpa using this
def flagList : List S36 := [⟨8, 1024⟩, ⟨128, 2048⟩, ⟨256, 64⟩, ⟨512, 512⟩, ⟨1024, 128⟩, ⟨65536, 65536⟩]
theorem fl_step (k : Nat) (a0 : Int) (x K p : BitVec 32) (o b : Int) (i : Nat) (hi : i < 6) (h : rd_T36 flagList (i : Int) = ⟨(p.toNat : Int), b⟩) (hK : ~~~K &&& p = p) :
    xlat_Flags.l0 (k + 1) a0 ((x &&& ~~~K).toNat : Int) o flagList 6 (i : Int) = xlat_Flags.l0 k a0 ((x &&& ~~~(K ||| p)).toNat : Int) (if x &&& p = 0#32 then o else Go.bits .or .i64 o b) flagList 6 ((i + 1 : Nat) : Int) := by
  conv => lhs; unfold xlat_Flags.l0
  have e1 : (x &&& ~~~K) &&& p = x &&& p := by rw [BitVec.and_assoc, hK]
  have e2 : x &&& ~~~(K ||| p) = (x &&& ~~~K) &&& ~~~p := by
    rw [BitVec.not_or, BitVec.and_assoc]
  have e3 : (p.toNat : Int) % 4294967296 = (p.toNat : Int) := by
    have := p.isLt
    omega
  have e4 : wrap64 ((i : Int) + 1) = ((i + 1 : Nat) : Int) := by
    rw [w64_id (by omega) (by omega)]
    rfl
  have hl : ((flagList.length : Nat) : Int) = 6 := rfl
  rw [if_pos (show (i : Int) < 6 by omega), if_pos (show (0 : Int) ≤ (i : Int) by omega), if_pos (show (i : Int) < (flagList.length : Int) by rw [hl]; omega), h]
  dsimp only
  rw [e3, bv_and, bv_not, e1, e4]
  simp only [bv_zero]
  by_cases hp : x &&& p = 0#32
  · have e5 := bv_keep (x &&& ~~~K) p (by rw [e1]; exact hp)
    rw [if_pos hp, if_pos hp, e2, e5]
  · rw [if_neg hp, if_neg hp, e2]
def outB (l : Int) (b1 b2 b3 b4 b5 b6 : Bool) : Int :=
  let f := fun (b : Bool) (o v : Int) => if b then o else Go.bits .or .i64 o v
  f b6 (f b5 (f b4 (f b3 (f b2 (f b1 l 1024) 2048) 64) 512) 128) 65536
def addB (b : Bool) (o v : Int) : Int := if b then o else wrap64 (o + v)
theorem addB_true (o v : Int) : addB true o v = o := rfl
theorem addB_false (o v : Int) : addB false o v = wrap64 (o + v) := rfl
def sumB (l : Int) (b1 b2 b3 b4 b5 b6 : Bool) : Int := addB b6 (addB b5 (addB b4 (addB b3 (addB b2 (addB b1 l 1024) 2048) 64) 512) 128) 65536
def outOf (x : BitVec 32) : Int := outB ((x &&& 3#32).toNat : Int) (decide (x &&& 8#32 = 0#32)) (decide (x &&& 128#32 = 0#32)) (decide (x &&& 256#32 = 0#32)) (decide (x &&& 512#32 = 0#32)) (decide (x &&& 1024#32 = 0#32)) (decide (x &&& 65536#32 = 0#32))
def flagsOf (x : BitVec 32) : Int × Bool := if x &&& ~~~100235#32 = 0#32 then (if x &&& 3#32 = 3#32 then (0, false) else (outOf x, true)) else (0, false)
theorem low_small (x : BitVec 32) : (x &&& 3#32).toNat < 4 := by
  have : (x &&& 3#32).toNat ≤ 3 := by rw [BitVec.toNat_and]; exact Nat.and_le_right
  omega
theorem bv_three (x : BitVec 32) : (((x &&& 3#32).toNat : Int) = 3) ↔ x &&& 3#32 = 3#32 := by
  constructor
  · intro h
    apply BitVec.eq_of_toNat_eq
    simp only [BitVec.reduceToNat]
    omega
  · intro h
    rw [h]
    rfl
theorem xlat_flags (x : BitVec 32) (k : Nat) : xlat_Flags.f (k + 7) (x.toNat : Int) = some (flagsOf x) := by
  unfold xlat_Flags.f
  rw [Option.bind_some]
  have s0 : Go.bits .andNot .u32 (x.toNat : Int) 32771 = ((x &&& ~~~32771#32).toNat : Int) := bv_not x 32771#32
  have s1 : Go.bits .and .u32 (x.toNat : Int) 3 = ((x &&& 3#32).toNat : Int) := bv_and x 3#32
  have s2 : wrap64 ((x &&& 3#32).toNat : Int) = ((x &&& 3#32).toNat : Int) := by
    have := low_small x
    exact w64_id (by omega) (by omega)
  rw [s0, s1, s2]
  show xlat_Flags.l0 (k + 7) (x.toNat : Int) _ _ flagList 6 ((0 : Nat) : Int) = _
  rw [fl_step (k + 6) _ x 32771#32 8#32 _ 1024 0 (by decide) rfl (by decide), fl_step (k + 5) _ x _ 128#32 _ 2048 1 (by decide) rfl (by decide), fl_step (k + 4) _ x _ 256#32 _ 64 2 (by decide) rfl (by decide), fl_step (k + 3) _ x _ 512#32 _ 512 3 (by decide) rfl (by decide), fl_step (k + 2) _ x _ 1024#32 _ 128 4 (by decide) rfl (by decide), fl_step (k + 1) _ x _ 65536#32 _ 65536 5 (by decide) rfl (by decide)]
  unfold xlat_Flags.l0
  rw [if_neg (show ¬ (((5 + 1 : Nat) : Int) < 6) by decide), s1]
  have hK : ((((((32771#32 ||| 8#32) ||| 128#32) ||| 256#32) ||| 512#32) ||| 1024#32) ||| 65536#32) = 100235#32 := by decide
  rw [hK]
  simp only [bv_zero, bv_three]
  unfold flagsOf outOf outB
  simp only [decide_eq_true_eq]
  by_cases h1 : x &&& ~~~100235#32 = 0#32
  · rw [if_pos h1, if_pos h1]
    by_cases h2 : x &&& 3#32 = 3#32
    · rw [if_pos h2, if_pos h2]
    · rw [if_neg h2, if_neg h2]
  · rw [if_neg h1, if_neg h1]
theorem sum_out : ∀ l : Fin 4, ∀ b1 b2 b3 b4 b5 b6 : Bool, sumB (l.val : Int) b1 b2 b3 b4 b5 b6 = outB (l.val : Int) b1 b2 b3 b4 b5 b6 := by decide +kernel
theorem or_i64 (a b : Nat) (ha : a < 2 ^ 63) (hb : b < 2 ^ 63) : Go.bits .or .i64 a b = ((a ||| b : Nat) : Int) := by
  show IntKind.i64.wrap (((BitVec.ofInt 64 (a : Int) ||| BitVec.ofInt 64 (b : Int)).toNat : Nat) : Int) = _
  have hlt : a ||| b < 2 ^ 63 := Nat.or_lt_two_pow ha hb
  rw [BitVec.toNat_or, BitVec.ofInt_natCast, BitVec.ofInt_natCast, BitVec.toNat_ofNat, BitVec.toNat_ofNat, Nat.mod_eq_of_lt (by omega), Nat.mod_eq_of_lt (by omega)]
  exact i64_keep _ (by omega) (by omega)
def fN (b : Bool) (o v : Nat) : Nat := if b then o else o ||| v
def outN (l : Nat) (b1 b2 b3 b4 b5 b6 : Bool) : Nat := fN b6 (fN b5 (fN b4 (fN b3 (fN b2 (fN b1 l 1024) 2048) 64) 512) 128) 65536
theorem out_nat : ∀ l : Fin 4, ∀ b1 b2 b3 b4 b5 b6 : Bool, outB (l.val : Int) b1 b2 b3 b4 b5 b6 = (outN l.val b1 b2 b3 b4 b5 b6 : Int) ∧ outN l.val b1 b2 b3 b4 b5 b6 < 131072 := by decide +kernel
theorem fN_both (b c : Bool) (o o' v : Nat) : fN (b && c) (o ||| o') v = fN b o v ||| fN c o' v := by
  apply Nat.eq_of_testBit_eq
  intro i
  cases b <;> cases c <;> simp only [fN, Bool.and_true, Bool.and_false, if_true, Bool.false_eq_true, if_false, Nat.testBit_or] <;> cases o.testBit i <;> cases o'.testBit i <;> cases v.testBit i <;> rfl
theorem outN_both (l : Nat) (b1 b2 b3 b4 b5 b6 c1 c2 c3 c4 c5 c6 : Bool) : outN l (b1 && c1) (b2 && c2) (b3 && c3) (b4 && c4) (b5 && c5) (b6 && c6) = outN l b1 b2 b3 b4 b5 b6 ||| outN 0 c1 c2 c3 c4 c5 c6 := by
  unfold outN
  rw [← fN_both, ← fN_both, ← fN_both, ← fN_both, ← fN_both, ← fN_both, Nat.or_zero]
theorem both_out (l : Fin 4) (b1 b2 b3 b4 b5 b6 c1 c2 c3 c4 c5 c6 : Bool) : outB (l.val : Int) (b1 && c1) (b2 && c2) (b3 && c3) (b4 && c4) (b5 && c5) (b6 && c6) = Go.bits .or .i64 (outB (l.val : Int) b1 b2 b3 b4 b5 b6) (outB 0 c1 c2 c3 c4 c5 c6) := by
  have h1 := out_nat l b1 b2 b3 b4 b5 b6
  have h2 := out_nat 0 c1 c2 c3 c4 c5 c6
  rw [(out_nat l _ _ _ _ _ _).1, h1.1, outN_both]
  have e : outB 0 c1 c2 c3 c4 c5 c6 = (outN 0 c1 c2 c3 c4 c5 c6 : Int) := h2.1
  have h3 : outN 0 c1 c2 c3 c4 c5 c6 < 131072 := h2.2
  rw [e, or_i64 _ _ (by omega) (by omega)]
theorem ref_zero (x m : BitVec 32) : (Go.bits .and .u32 (x.toNat : Int) (m.toNat : Int) = 0) ↔ (x &&& m = 0#32) := by rw [bv_and, bv_zero]
theorem ref_j4 (x : BitVec 32) (k : Nat) (o : Int) : ferryref24_Flags.j4 (k + 1) (x.toNat : Int) o = some (addB (decide (x &&& 65536#32 = 0#32)) (addB (decide (x &&& 1024#32 = 0#32)) o 128) 65536, true) := by
  have y5 : (Go.bits .and .u32 (x.toNat : Int) 1024 = 0) ↔ _ := ref_zero x 1024#32
  have y6 : (Go.bits .and .u32 (x.toNat : Int) 65536 = 0) ↔ _ := ref_zero x 65536#32
  unfold ferryref24_Flags.j4
  dsimp only
  by_cases h5 : x &&& 1024#32 = 0#32
  · rw [if_pos (y5.2 h5), decide_eq_true h5]
    by_cases h6 : x &&& 65536#32 = 0#32
    · rw [if_pos (y6.2 h6), decide_eq_true h6]
      rfl
    · rw [if_neg (fun e => h6 (y6.1 e)), decide_eq_false h6]
      rfl
  · rw [if_neg (fun e => h5 (y5.1 e)), decide_eq_false h5]
    by_cases h6 : x &&& 65536#32 = 0#32
    · rw [if_pos (y6.2 h6), decide_eq_true h6]
      rfl
    · rw [if_neg (fun e => h6 (y6.1 e)), decide_eq_false h6]
      rfl
theorem ref_j3 (x : BitVec 32) (k : Nat) (o : Int) : ferryref24_Flags.j3 (k + 1) (x.toNat : Int) o = ferryref24_Flags.j4 k (x.toNat : Int) (addB (decide (x &&& 512#32 = 0#32)) o 512) := by
  have y5 : (Go.bits .and .u32 (x.toNat : Int) 512 = 0) ↔ _ := ref_zero x 512#32
  unfold ferryref24_Flags.j3
  dsimp only
  by_cases h5 : x &&& 512#32 = 0#32
  · rw [if_pos (y5.2 h5), decide_eq_true h5]
    rfl
  · rw [if_neg (fun e => h5 (y5.1 e)), decide_eq_false h5]
    rfl
theorem ref_j2 (x : BitVec 32) (k : Nat) (o : Int) : ferryref24_Flags.j2 (k + 1) (x.toNat : Int) o = ferryref24_Flags.j3 k (x.toNat : Int) (addB (decide (x &&& 256#32 = 0#32)) o 64) := by
  have y5 : (Go.bits .and .u32 (x.toNat : Int) 256 = 0) ↔ _ := ref_zero x 256#32
  unfold ferryref24_Flags.j2
  dsimp only
  by_cases h5 : x &&& 256#32 = 0#32
  · rw [if_pos (y5.2 h5), decide_eq_true h5]
    rfl
  · rw [if_neg (fun e => h5 (y5.1 e)), decide_eq_false h5]
    rfl
theorem ref_j1 (x : BitVec 32) (k : Nat) (o : Int) : ferryref24_Flags.j1 (k + 1) (x.toNat : Int) o = ferryref24_Flags.j2 k (x.toNat : Int) (addB (decide (x &&& 128#32 = 0#32)) o 2048) := by
  have y5 : (Go.bits .and .u32 (x.toNat : Int) 128 = 0) ↔ _ := ref_zero x 128#32
  unfold ferryref24_Flags.j1
  dsimp only
  by_cases h5 : x &&& 128#32 = 0#32
  · rw [if_pos (y5.2 h5), decide_eq_true h5]
    rfl
  · rw [if_neg (fun e => h5 (y5.1 e)), decide_eq_false h5]
    rfl
end Go.Proofs.YtijghmpapmfndaaDoor.F
