import Derived.Below
import Derived.Deep.Draws
import Derived.Deep.AppendLies
import Derived.Maps.AppendAt
import Derived.OwnWalk
import Derived.Laws.BytesArg
import Derived.Laws.MakeOwn
import Derived.Laws.OwnMore
import Derived.Deep.OwnRows
import Derived.Tactics
import Derived.Lib.ConvBytes
import Derived.Laws.Slices
import Derived.WalkKit
import Derived.KernelRfl
import Derived.RowKit3
import Derived.Deep.LoopGhost
import Derived.Deep.QuietTactic
import Derived.BigQuiet
import Derived.WideLaws
import Derived.Deep.DeepCutAuto
import Derived.Deep.CutBlock
import Derived.Deep.RegionHeld3
import Derived.Laws.Rows
import Derived.Lib.AppendStr
import Derived.ArgAppend
import Derived.Laws.IdiomCopy
import Derived.RowKit
import Derived.OrdersHeld
import Derived.Laws.BitsLemmas
import Derived.Laws.StructEq
import Derived.Test.YtjkpgfjnidflhaaDoorZF0
import Derived.Test.YtjkpgfjnidflhaaDoorYA16
section
namespace Go.Proofs.YtjkpgfjnidflhaaDoor.F
open Go.RowKit Go.Proofs.YtjkpgfjnidflhaaDoorW.PrintWords Go.Proofs.YtjkpgfjnidflhaaDoorW.PrintLast Go.Proofs.YtjkpgfjnidflhaaDoorW.PrintMore
attribute [local go_sem] max2_int min2_int max_two min_two max_three min_three max_four min_four
set_option linter.unusedVariables false
set_option linter.unusedSimpArgs false

theorem eqA24 (d : Nat) (w : World) (x0 y0 : ByteArray) (x1 y1 : Int) (x2 y2 : Int) (x3 y3 : Int) (x4 y4 : Int) (x5 y5 : Int) :
    (Op.equalIn (d + 2) 24 (.agg #[.string x0, .int .i64 x1, .int .i64 x2, .int .i64 x3, .int .i64 x4, .int .u32 x5]) (.agg #[.string y0, .int .i64 y1, .int .i64 y2, .int .i64 y3, .int .i64 y4, .int .u32 y5])).run Tryd.prog w = .ok (x0.toList == y0.toList && (x1 == y1 && (x2 == y2 && (x3 == y3 && (x4 == y4 && (x5 == y5)))))) w := by
  refine eqA_of Tryd.underlying24 (by kernel_rfl) ?_
  refine eqf_cons (by rfl) (by go_simp; rfl) (by go_simp; rfl) (by go_simp) ?_
  refine eqf_cons (by rfl) (by go_simp; rfl) (by go_simp; rfl) (by go_simp) ?_
  refine eqf_cons (by rfl) (by go_simp; rfl) (by go_simp; rfl) (by go_simp) ?_
  refine eqf_cons (by rfl) (by go_simp; rfl) (by go_simp; rfl) (by go_simp) ?_
  refine eqf_cons (by rfl) (by go_simp; rfl) (by go_simp; rfl) (by go_simp) ?_
  exact eqf_last (by rfl) (by go_simp; rfl) (by go_simp; rfl) (by go_simp)
end Go.Proofs.YtjkpgfjnidflhaaDoor.F
end
section
namespace Go.Proofs.YtjkpgfjnidflhaaDoor.F
open Go.RowKit Go.Proofs.YtjkpgfjnidflhaaDoorW.PrintWords Go.Proofs.YtjkpgfjnidflhaaDoorW.PrintLast Go.Proofs.YtjkpgfjnidflhaaDoorW.PrintMore
attribute [local go_sem] max2_int min2_int max_two min_two max_three min_three max_four min_four
set_option linter.unusedVariables false
set_option linter.unusedSimpArgs false

def ferryref07_memory.f (a0 : ByteArray) : Option (Int × Int × Int × ByteArray) := if a0.toList = ([114, 111, 116, 114] : List UInt8) then (some (0, 2, 0, (⟨#[100, 116, 114]⟩ : ByteArray))) else (if a0.toList = ([114, 111, 116, 114, 118] : List UInt8) then (some (0, 6, 0, (⟨#[100, 116, 118]⟩ : ByteArray))) else (if a0.toList = ([108, 98] : List UInt8) then (some (32, 0, 0, (⟨#[116, 109]⟩ : ByteArray))) else (if a0.toList = ([108, 104] : List UInt8) then (some (33, 0, 0, (⟨#[116, 109]⟩ : ByteArray))) else (if a0.toList = ([108, 119, 108] : List UInt8) then (some (34, 0, 0, (⟨#[116, 109]⟩ : ByteArray))) else (if a0.toList = ([108, 119] : List UInt8) then (some (35, 0, 0, (⟨#[116, 109]⟩ : ByteArray))) else (if a0.toList = ([108, 98, 117] : List UInt8) then (some (36, 0, 0, (⟨#[116, 109]⟩ : ByteArray))) else (if a0.toList = ([108, 104, 117] : List UInt8) then (some (37, 0, 0, (⟨#[116, 109]⟩ : ByteArray))) else (if a0.toList = ([108, 119, 114] : List UInt8) then (some (38, 0, 0, (⟨#[116, 109]⟩ : ByteArray))) else (if a0.toList = ([115, 98] : List UInt8) then (some (40, 0, 0, (⟨#[116, 109]⟩ : ByteArray))) else (if a0.toList = ([115, 104] : List UInt8) then (some (41, 0, 0, (⟨#[116, 109]⟩ : ByteArray))) else (if a0.toList = ([115, 119, 108] : List UInt8) then (some (42, 0, 0, (⟨#[116, 109]⟩ : ByteArray))) else (if a0.toList = ([115, 119] : List UInt8) then (some (43, 0, 0, (⟨#[116, 109]⟩ : ByteArray))) else (if a0.toList = ([115, 119, 114] : List UInt8) then (some (46, 0, 0, (⟨#[116, 109]⟩ : ByteArray))) else (if a0.toList = ([108, 108] : List UInt8) then (some (48, 0, 0, (⟨#[116, 109]⟩ : ByteArray))) else (if a0.toList = ([115, 99] : List UInt8) then (some (56, 0, 0, (⟨#[116, 109]⟩ : ByteArray))) else (some (0, 0, 0, (⟨#[]⟩ : ByteArray))))))))))))))))))
end Go.Proofs.YtjkpgfjnidflhaaDoor.F
end
section
namespace Go.Proofs.YtjkpgfjnidflhaaDoor.F
open Go.RowKit Go.Proofs.YtjkpgfjnidflhaaDoorW.PrintWords Go.Proofs.YtjkpgfjnidflhaaDoorW.PrintLast Go.Proofs.YtjkpgfjnidflhaaDoorW.PrintMore
attribute [local go_sem] max2_int min2_int max_two min_two max_three min_three max_four min_four
set_option linter.unusedVariables false
set_option linter.unusedSimpArgs false

def ferryref07_other.f (a0 : ByteArray) : Option (Int × Int × Int × ByteArray) := if a0.toList = ([98, 108, 116, 122] : List UInt8) then (some (1, 0, 0, (⟨#[115, 111]⟩ : ByteArray))) else (if a0.toList = ([98, 103, 101, 122] : List UInt8) then (some (1, 1, 0, (⟨#[115, 111]⟩ : ByteArray))) else (if a0.toList = ([98, 108, 116, 122, 97, 108] : List UInt8) then (some (1, 16, 0, (⟨#[115, 111]⟩ : ByteArray))) else (if a0.toList = ([98, 103, 101, 122, 97, 108] : List UInt8) then (some (1, 17, 0, (⟨#[115, 111]⟩ : ByteArray))) else (if a0.toList = ([106] : List UInt8) then (some (2, 0, 0, (⟨#[106]⟩ : ByteArray))) else (if a0.toList = ([106, 97, 108] : List UInt8) then (some (3, 0, 0, (⟨#[106]⟩ : ByteArray))) else (if a0.toList = ([98, 101, 113] : List UInt8) then (some (4, 0, 0, (⟨#[115, 116, 111]⟩ : ByteArray))) else (if a0.toList = ([98, 110, 101] : List UInt8) then (some (5, 0, 0, (⟨#[115, 116, 111]⟩ : ByteArray))) else (if a0.toList = ([98, 108, 101, 122] : List UInt8) then (some (6, 0, 0, (⟨#[115, 111]⟩ : ByteArray))) else (if a0.toList = ([98, 103, 116, 122] : List UInt8) then (some (7, 0, 0, (⟨#[115, 111]⟩ : ByteArray))) else (if a0.toList = ([97, 100, 100, 105] : List UInt8) then (some (8, 0, 0, (⟨#[116, 115, 105]⟩ : ByteArray))) else (if a0.toList = ([97, 100, 100, 105, 117] : List UInt8) then (some (9, 0, 0, (⟨#[116, 115, 105]⟩ : ByteArray))) else (if a0.toList = ([115, 108, 116, 105] : List UInt8) then (some (10, 0, 0, (⟨#[116, 115, 105]⟩ : ByteArray))) else (if a0.toList = ([115, 108, 116, 105, 117] : List UInt8) then (some (11, 0, 0, (⟨#[116, 115, 105]⟩ : ByteArray))) else (if a0.toList = ([97, 110, 100, 105] : List UInt8) then (some (12, 0, 0, (⟨#[116, 115, 105]⟩ : ByteArray))) else (if a0.toList = ([111, 114, 105] : List UInt8) then (some (13, 0, 0, (⟨#[116, 115, 105]⟩ : ByteArray))) else (if a0.toList = ([120, 111, 114, 105] : List UInt8) then (some (14, 0, 0, (⟨#[116, 115, 105]⟩ : ByteArray))) else (if a0.toList = ([108, 117, 105] : List UInt8) then (some (15, 0, 0, (⟨#[116, 105]⟩ : ByteArray))) else (if a0.toList = ([109, 97, 100, 100] : List UInt8) then (some (28, 0, 0, (⟨#[115, 116]⟩ : ByteArray))) else (if a0.toList = ([109, 97, 100, 100, 117] : List UInt8) then (some (28, 1, 0, (⟨#[115, 116]⟩ : ByteArray))) else (if a0.toList = ([109, 117, 108] : List UInt8) then (some (28, 2, 0, (⟨#[100, 115, 116]⟩ : ByteArray))) else (if a0.toList = ([109, 115, 117, 98] : List UInt8) then (some (28, 4, 0, (⟨#[115, 116]⟩ : ByteArray))) else (if a0.toList = ([109, 115, 117, 98, 117] : List UInt8) then (some (28, 5, 0, (⟨#[115, 116]⟩ : ByteArray))) else (if a0.toList = ([99, 108, 122] : List UInt8) then (some (28, 32, 0, (⟨#[100, 115, 100]⟩ : ByteArray))) else (if a0.toList = ([99, 108, 111] : List UInt8) then (some (28, 33, 0, (⟨#[100, 115, 100]⟩ : ByteArray))) else (if a0.toList = ([101, 120, 116] : List UInt8) then (some (31, 0, 0, (⟨#[116, 115, 120]⟩ : ByteArray))) else (if a0.toList = ([105, 110, 115] : List UInt8) then (some (31, 4, 0, (⟨#[116, 115, 120]⟩ : ByteArray))) else (if a0.toList = ([119, 115, 98, 104] : List UInt8) then (some (31, 32, 2, (⟨#[100, 116]⟩ : ByteArray))) else (if a0.toList = ([115, 101, 98] : List UInt8) then (some (31, 32, 16, (⟨#[100, 116]⟩ : ByteArray))) else (if a0.toList = ([115, 101, 104] : List UInt8) then (some (31, 32, 24, (⟨#[100, 116]⟩ : ByteArray))) else (if a0.toList = ([114, 100, 104, 119, 114] : List UInt8) then (some (31, 59, 0, (⟨#[116, 100]⟩ : ByteArray))) else ((ferryref07_memory.f a0).bind fun bt121 => (some (bt121.1, bt121.2.1, bt121.2.2.1, bt121.2.2.2)))))))))))))))))))))))))))))))))
end Go.Proofs.YtjkpgfjnidflhaaDoor.F
end
section
namespace Go.Proofs.YtjkpgfjnidflhaaDoor.F
open Go.RowKit Go.Proofs.YtjkpgfjnidflhaaDoorW.PrintWords Go.Proofs.YtjkpgfjnidflhaaDoorW.PrintLast Go.Proofs.YtjkpgfjnidflhaaDoorW.PrintMore
attribute [local go_sem] max2_int min2_int max_two min_two max_three min_three max_four min_four
set_option linter.unusedVariables false
set_option linter.unusedSimpArgs false

def ferryref07_special.f (a0 : ByteArray) : Option (Int × Int × Int × ByteArray) := if a0.toList = ([115, 108, 108] : List UInt8) then (some (0, 0, 0, (⟨#[100, 116, 97]⟩ : ByteArray))) else (if a0.toList = ([115, 114, 108] : List UInt8) then (some (0, 2, 0, (⟨#[100, 116, 97]⟩ : ByteArray))) else (if a0.toList = ([115, 114, 97] : List UInt8) then (some (0, 3, 0, (⟨#[100, 116, 97]⟩ : ByteArray))) else (if a0.toList = ([115, 108, 108, 118] : List UInt8) then (some (0, 4, 0, (⟨#[100, 116, 115]⟩ : ByteArray))) else (if a0.toList = ([115, 114, 108, 118] : List UInt8) then (some (0, 6, 0, (⟨#[100, 116, 115]⟩ : ByteArray))) else (if a0.toList = ([115, 114, 97, 118] : List UInt8) then (some (0, 7, 0, (⟨#[100, 116, 115]⟩ : ByteArray))) else (if a0.toList = ([106, 114] : List UInt8) then (some (0, 8, 0, (⟨#[115]⟩ : ByteArray))) else (if a0.toList = ([106, 97, 108, 114] : List UInt8) then (some (0, 9, 0, (⟨#[100, 115]⟩ : ByteArray))) else (if a0.toList = ([109, 111, 118, 122] : List UInt8) then (some (0, 10, 0, (⟨#[100, 115, 116]⟩ : ByteArray))) else (if a0.toList = ([109, 111, 118, 110] : List UInt8) then (some (0, 11, 0, (⟨#[100, 115, 116]⟩ : ByteArray))) else (if a0.toList = ([115, 121, 115, 99, 97, 108, 108] : List UInt8) then (some (0, 12, 0, (⟨#[99]⟩ : ByteArray))) else (if a0.toList = ([98, 114, 101, 97, 107] : List UInt8) then (some (0, 13, 0, (⟨#[99]⟩ : ByteArray))) else (if a0.toList = ([109, 102, 104, 105] : List UInt8) then (some (0, 16, 0, (⟨#[100]⟩ : ByteArray))) else (if a0.toList = ([109, 116, 104, 105] : List UInt8) then (some (0, 17, 0, (⟨#[115]⟩ : ByteArray))) else (if a0.toList = ([109, 102, 108, 111] : List UInt8) then (some (0, 18, 0, (⟨#[100]⟩ : ByteArray))) else (if a0.toList = ([109, 116, 108, 111] : List UInt8) then (some (0, 19, 0, (⟨#[115]⟩ : ByteArray))) else (if a0.toList = ([109, 117, 108, 116] : List UInt8) then (some (0, 24, 0, (⟨#[115, 116]⟩ : ByteArray))) else (if a0.toList = ([109, 117, 108, 116, 117] : List UInt8) then (some (0, 25, 0, (⟨#[115, 116]⟩ : ByteArray))) else (if a0.toList = ([100, 105, 118] : List UInt8) then (some (0, 26, 0, (⟨#[115, 116]⟩ : ByteArray))) else (if a0.toList = ([100, 105, 118, 117] : List UInt8) then (some (0, 27, 0, (⟨#[115, 116]⟩ : ByteArray))) else (if a0.toList = ([97, 100, 100] : List UInt8) then (some (0, 32, 0, (⟨#[100, 115, 116]⟩ : ByteArray))) else (if a0.toList = ([97, 100, 100, 117] : List UInt8) then (some (0, 33, 0, (⟨#[100, 115, 116]⟩ : ByteArray))) else (if a0.toList = ([115, 117, 98] : List UInt8) then (some (0, 34, 0, (⟨#[100, 115, 116]⟩ : ByteArray))) else (if a0.toList = ([115, 117, 98, 117] : List UInt8) then (some (0, 35, 0, (⟨#[100, 115, 116]⟩ : ByteArray))) else (if a0.toList = ([97, 110, 100] : List UInt8) then (some (0, 36, 0, (⟨#[100, 115, 116]⟩ : ByteArray))) else (if a0.toList = ([111, 114] : List UInt8) then (some (0, 37, 0, (⟨#[100, 115, 116]⟩ : ByteArray))) else (if a0.toList = ([120, 111, 114] : List UInt8) then (some (0, 38, 0, (⟨#[100, 115, 116]⟩ : ByteArray))) else (if a0.toList = ([110, 111, 114] : List UInt8) then (some (0, 39, 0, (⟨#[100, 115, 116]⟩ : ByteArray))) else (if a0.toList = ([115, 108, 116] : List UInt8) then (some (0, 42, 0, (⟨#[100, 115, 116]⟩ : ByteArray))) else (if a0.toList = ([115, 108, 116, 117] : List UInt8) then (some (0, 43, 0, (⟨#[100, 115, 116]⟩ : ByteArray))) else (if a0.toList = ([116, 103, 101] : List UInt8) then (some (0, 48, 0, (⟨#[115, 116]⟩ : ByteArray))) else (if a0.toList = ([116, 103, 101, 117] : List UInt8) then (some (0, 49, 0, (⟨#[115, 116]⟩ : ByteArray))) else (if a0.toList = ([116, 108, 116] : List UInt8) then (some (0, 50, 0, (⟨#[115, 116]⟩ : ByteArray))) else (if a0.toList = ([116, 108, 116, 117] : List UInt8) then (some (0, 51, 0, (⟨#[115, 116]⟩ : ByteArray))) else (if a0.toList = ([116, 101, 113] : List UInt8) then (some (0, 52, 0, (⟨#[115, 116]⟩ : ByteArray))) else (if a0.toList = ([116, 110, 101] : List UInt8) then (some (0, 54, 0, (⟨#[115, 116]⟩ : ByteArray))) else ((ferryref07_other.f a0).bind fun bt126 => (some (bt126.1, bt126.2.1, bt126.2.2.1, bt126.2.2.2))))))))))))))))))))))))))))))))))))))
end Go.Proofs.YtjkpgfjnidflhaaDoor.F
end
section
namespace Go.Proofs.YtjkpgfjnidflhaaDoor.F
open Go.RowKit Go.Proofs.YtjkpgfjnidflhaaDoorW.PrintWords Go.Proofs.YtjkpgfjnidflhaaDoorW.PrintLast Go.Proofs.YtjkpgfjnidflhaaDoorW.PrintMore
theorem bits_nat32 (a b : Nat) (ha : a < 2 ^ 32) (hb : b < 2 ^ 32) : Go.bits .and .u32 a b = ((a &&& b : Nat) : Int) ∧ Go.bits .or .u32 a b = ((a ||| b : Nat) : Int) ∧ Go.bits .xor .u32 a b = ((a ^^^ b : Nat) : Int) := by
  have h := bits_nat .u32 32 (by decide) u32_keep a b ha hb
  refine ⟨h.1, h.2, ?_⟩
  have ha' : a % 2 ^ 32 = a := Nat.mod_eq_of_lt ha
  have hb' : b % 2 ^ 32 = b := Nat.mod_eq_of_lt hb
  show IntKind.u32.wrap _ = _
  have e : (BitVec.ofInt 32 (a : Int) ^^^ BitVec.ofInt 32 (b : Int)).toNat = a ^^^ b := by
    rw [BitVec.ofInt_natCast, BitVec.ofInt_natCast, BitVec.toNat_xor, BitVec.toNat_ofNat, BitVec.toNat_ofNat, ha', hb']
  show IntKind.u32.wrap (((BitVec.ofInt 32 (a : Int) ^^^ BitVec.ofInt 32 (b : Int)).toNat : Nat) : Int) = _
  rw [e]
  have : a ^^^ b < 2 ^ 32 := Nat.xor_lt_two_pow ha hb
  rw [u32w]
  omega
end Go.Proofs.YtjkpgfjnidflhaaDoor.F
end
section
namespace Go.Proofs.YtjkpgfjnidflhaaDoor.F
open Go.RowKit
set_option linter.unusedVariables false
set_option linter.unusedSimpArgs false
theorem or_digit (k a b c e : Nat) (hb : b < 2 ^ k) (he : e < 2 ^ k) : (2 ^ k * a + b) ||| (2 ^ k * c + e) = 2 ^ k * (a ||| c) + (b ||| e) := by
  have hbe : b ||| e < 2 ^ k := Nat.or_lt_two_pow hb he
  apply Nat.eq_of_testBit_eq
  intro j
  rw [Nat.testBit_or, Nat.testBit_two_pow_mul_add a hb, Nat.testBit_two_pow_mul_add c he, Nat.testBit_two_pow_mul_add (a ||| c) hbe]
  split <;> rw [Nat.testBit_or]
theorem mkW_or (o s t d a f o' s' t' d' a' f' : Nat) (hs : s < 32) (ht : t < 32) (hd : d < 32) (ha : a < 32) (hf : f < 64) (hs' : s' < 32) (ht' : t' < 32) (hd' : d' < 32) (ha' : a' < 32) (hf' : f' < 64) :
    mkW o s t d a f ||| mkW o' s' t' d' a' f' = mkW (o ||| o') (s ||| s') (t ||| t') (d ||| d') (a ||| a') (f ||| f') := by
  unfold mkW
  have h1 := or_digit 6 a f a' f' (by omega) (by omega)
  have h2 := or_digit 11 d (64 * a + f) d' (64 * a' + f') (by omega) (by omega)
  have h3 := or_digit 16 t (2048 * d + (64 * a + f)) t' (2048 * d' + (64 * a' + f')) (by omega) (by omega)
  have h4 := or_digit 21 s (65536 * t + (2048 * d + (64 * a + f))) s' (65536 * t' + (2048 * d' + (64 * a' + f'))) (by omega) (by omega)
  have h5 := or_digit 26 o (2097152 * s + (65536 * t + (2048 * d + (64 * a + f)))) o' (2097152 * s' + (65536 * t' + (2048 * d' + (64 * a' + f')))) (by omega) (by omega)
  simp only [Nat.reducePow] at h1 h2 h3 h4 h5
  rw [h5, h4, h3, h2, h1]
theorem mkW_orI {o s t d a f o' s' t' d' a' f' : Nat} (ho : o < 64) (hs : s < 32) (ht : t < 32) (hd : d < 32) (ha : a < 32) (hf : f < 64) (ho' : o' < 64) (hs' : s' < 32) (ht' : t' < 32) (hd' : d' < 32) (ha' : a' < 32) (hf' : f' < 64) :
    Go.bits .or .u32 (mkW o s t d a f : Int) (mkW o' s' t' d' a' f' : Int) = (mkW (o ||| o') (s ||| s') (t ||| t') (d ||| d') (a ||| a') (f ||| f') : Int) := by
  rw [(bits_nat32 _ _ (mkW_lt ho hs ht hd ha hf) (mkW_lt ho' hs' ht' hd' ha' hf')).2.1, mkW_or _ _ _ _ _ _ _ _ _ _ _ _ hs ht hd ha hf hs' ht' hd' ha' hf']
end Go.Proofs.YtjkpgfjnidflhaaDoor.F
end
