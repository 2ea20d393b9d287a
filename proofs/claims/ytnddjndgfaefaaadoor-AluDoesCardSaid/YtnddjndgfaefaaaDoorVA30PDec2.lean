import Derived.Below
import Derived.Deep.Draws
import Derived.Deep.AppendLies
import Derived.Maps.AppendAt
import Derived.OwnWalk
import Derived.Laws.BytesArg
import Derived.Laws.MakeOwn
import Derived.Laws.OwnMore
import Derived.Deep.OwnRows
import Derived.Tactics
import Derived.Lib.ConvBytes
import Derived.Laws.Slices
import Derived.WalkKit
import Derived.KernelRfl
import Derived.RowKit3
import Derived.Deep.LoopGhost
import Derived.Deep.QuietTactic
import Derived.BigQuiet
import Derived.WideLaws
import Derived.Deep.DeepCutAuto
import Derived.Deep.CutBlock
import Derived.Deep.RegionHeld3
import Derived.Laws.Rows
import Derived.Lib.AppendStr
import Derived.ArgAppend
import Derived.Laws.IdiomCopy
import Derived.RowKit
import Derived.OrdersHeld
import Derived.Laws.BitsLemmas
import Derived.Laws.StructEq
import Derived.Shelf.Small.Bits
import Derived.Shelf.LaysM
import Derived.Shelf.Strings.Fields
import Derived.Shelf.Strings.Replace
import Derived.Shelf.Strings.SplitShaped
import Derived.Lib.LaidTab
import Derived.Shelf.Abstract
import Derived.RangeFuncRecord
import Derived.ProofKit
import Derived.Lib.Hide
import Derived.Maps.OwnOps
import Derived.OwnWalkIn
import Derived.WalkSmall
import Derived.Laws.ResultCell
import Derived.Shelf.RegionOpen
import Derived.Deep.RegionWith
import Derived.Test.YtnddjndgfaefaaaDoorVZF0
import Derived.Test.YtnddjndgfaefaaaDoorVA3HDecTake
import Derived.Test.YtnddjndgfaefaaaDoorVA20
import Derived.Test.YtnddjndgfaefaaaDoorVA21HDecSpecial
import Derived.Test.YtnddjndgfaefaaaDoorVA22HDecRef
import Derived.Test.YtnddjndgfaefaaaDoorVA23HDecGuess
import Derived.Test.YtnddjndgfaefaaaDoorVA24FFerryref07Encode
import Derived.Test.YtnddjndgfaefaaaDoorVA29PDec1
section
namespace Go.Proofs.YtnddjndgfaefaaaDoor.F
open Go.RowKit Go.Proofs.YtnddjndgfaefaaaDoorW.PrintWords Go.Proofs.YtnddjndgfaefaaaDoorW.PrintLast Go.Proofs.YtnddjndgfaefaaaDoorW.PrintMore
set_option linter.unusedVariables false
set_option linter.unusedSimpArgs false
theorem fits_bound {n : Int} {h : Bool} (hf : fitsOf n h = true) : 0 ≤ n ∧ n < 32 ∧ (h = false → n = 0) := by
  unfold fitsOf ferryref07_fits.f at hf
  by_cases h0 : n = 0
  · subst h0
    exact ⟨by omega, by omega, fun _ => rfl⟩
  rw [if_neg h0] at hf
  by_cases h1 : h = true
  · rw [if_pos h1] at hf
    by_cases h2 : n > 0
    · rw [if_pos h2] at hf
      have h3 : n < 32 := by simpa using hf
      exact ⟨by omega, h3, fun e => by rw [h1] at e; cases e⟩
    rw [if_neg h2] at hf
    cases hf
  rw [if_neg h1] at hf
  cases hf
theorem fits_of {n : Int} {h : Bool} (h0 : 0 ≤ n) (h1 : n < 32) (h2 : h = false → n = 0) : fitsOf n h = true := by
  unfold fitsOf ferryref07_fits.f
  by_cases e : n = 0
  · rw [if_pos e]
    rfl
  rw [if_neg e]
  cases h with
  | false => exact absurd (h2 rfl) e
  | true =>
    rw [if_pos rfl, if_pos (by omega)]
    simpa using h1
theorem ref_s {n : Int} (h0 : 0 ≤ n) (h1 : n < 32) : (n % 4294967296 * 2097152) % 4294967296 = (W 0 (dg n) 0 0 0 0 : Int) := by
  rw [W_val]
  unfold dg
  omega
theorem ref_t {n : Int} (h0 : 0 ≤ n) (h1 : n < 32) : (n % 4294967296 * 65536) % 4294967296 = (W 0 0 (dg n) 0 0 0 : Int) := by
  rw [W_val]
  unfold dg
  omega
theorem ref_d {n : Int} (h0 : 0 ≤ n) (h1 : n < 32) : (n % 4294967296 * 2048) % 4294967296 = (W 0 0 0 (dg n) 0 0 : Int) := by
  rw [W_val]
  unfold dg
  omega
theorem ref_a {n : Int} (h0 : 0 ≤ n) (h1 : n < 32) : (n % 4294967296 * 64) % 4294967296 = (W 0 0 0 0 (dg n) 0 : Int) := by
  rw [W_val]
  unfold dg
  omega
theorem ref_sub {n : Nat} (h : n < 64) : (n : Int) = (W 0 0 0 0 0 n : Int) := by
  rw [W_val]
  omega
theorem ref_sa {n : Nat} (h : n < 32) : ((n : Int) * 64) % 4294967296 = (W 0 0 0 0 n 0 : Int) := by
  rw [W_val]
  omega
theorem ref_i16 {i : Int} (h0 : 0 ≤ i) (h1 : i < 65536) : i = (W 0 0 0 (i.toNat / 2048) (i.toNat / 64) i.toNat : Int) := by
  rw [W_val]
  omega
theorem ref_i26 {i : Int} (h0 : 0 ≤ i) (h1 : i < 67108864) : i = (W 0 (i.toNat / 2097152) (i.toNat / 65536) (i.toNat / 2048) (i.toNat / 64) i.toNat : Int) := by
  rw [W_val]
  omega
theorem ref_i20 {i : Int} (h0 : 0 ≤ i) (h1 : i < 1048576) : (i * 64) % 4294967296 = (W 0 (i.toNat / 32768) (i.toNat / 1024) (i.toNat / 32) i.toNat 0 : Int) := by
  rw [W_val]
  omega
theorem ref_one : ((1 : Int) * 67108864) % 4294967296 = (W 1 0 0 0 0 0 : Int) := by decide
theorem ref_two {n : Nat} (h : n < 32) : ((n : Int) * 65536) % 4294967296 = (W 0 0 n 0 0 0 : Int) := by
  rw [W_val]
  omega
theorem ref_c2 : (1 * 2097152 : Int) = (W 0 1 0 0 0 0 : Int) := by decide
theorem ref_c3 : (1 * 64 : Int) = (W 0 0 0 0 1 0 : Int) := by decide
theorem dg_zero : dg 0 = 0 := rfl
theorem fit_parts {nm form : List UInt8} {f1 f2 f3 f4 g : Bool} {d a : Int} (h : fitIf nm form f1 f2 f3 f4 g d a = true) : f1 = true ∧ f2 = true ∧ f3 = true ∧ f4 = true ∧ g = false := by
  unfold fitIf at h
  simp only [Bool.and_eq_true, Bool.not_eq_true'] at h
  exact ⟨h.1.1.1.1.1.1.1.2, h.1.1.1.1.1.1.2, h.1.1.1.1.1.2, h.1.1.1.1.2, h.1.1.1.2⟩
theorem W_mod (o s t d a f : Nat) : W o s t d a (f % 64) = W o s t d a f := by
  unfold W
  rw [Nat.mod_mod]
theorem enc_dta (k : Nat) (nm form : ByteArray) (x : Nums) (op sub : Nat) (ho : op < 64) (h1' : op ≠ 1) (hsub : sub < 64) (hf : form.toList = [100, 116, 97]) (hsp : ferryref07_special.f nm = some ((op : Int), (sub : Int), 0, form)) (h0 : 0 ≤ x.i) (h1 : x.i ≤ 4294967295) :
    ferryref07_Encode.f (k + 1) nm x.s x.t x.d x.a x.i = some (if fitIf nm.toList [100, 116, 97] (fitsOf x.s false) (fitsOf x.t true) (fitsOf x.d true) (fitsOf x.a true) (decide (1 ≤ x.i)) x.d x.a = true then ((W op 0 (dg x.t) (dg x.d) (dg x.a) sub : Int), true) else (0, false)) := by
  have hfit : ferryref07_fit.f nm x.s x.t x.d x.a x.i (op : Int) (sub : Int) 0 form = some (fitIf nm.toList [100, 116, 97] (fitsOf x.s false) (fitsOf x.t true) (fitsOf x.d true) (fitsOf x.a true) (decide (1 ≤ x.i)) x.d x.a) := by
    unfold ferryref07_fit.f
    rw [hf, show regsOf [100, 116, 97] = some ([100, 116, 97], (false, true, true, true), 0) from rfl]
    rfl
  unfold ferryref07_Encode.f
  rw [hsp, Option.bind_some]
  dsimp only
  rw [hfit, Option.bind_some]
  by_cases hq : fitIf nm.toList [100, 116, 97] (fitsOf x.s false) (fitsOf x.t true) (fitsOf x.d true) (fitsOf x.a true) (decide (1 ≤ x.i)) x.d x.a = true
  · rw [hq, if_pos rfl, if_pos rfl]
    obtain ⟨p1, p2, p3, p4, p5⟩ := fit_parts hq
    obtain ⟨s0, s1, s2⟩ := fits_bound p1
    obtain ⟨t0, t1, t2⟩ := fits_bound p2
    obtain ⟨d0, d1, d2⟩ := fits_bound p3
    obtain ⟨a0, a1, a2⟩ := fits_bound p4
    have i1 : x.i < 1 := by simpa using p5
    clear hq p1 p2 p3 p4 p5 hfit hsp
    rw [hf]
    rw [if_neg (by decide), if_neg (by decide), if_neg (by decide), if_neg (by decide), if_neg (by decide), if_neg (by decide)]
    unfold ferryref07_Encode.j0
    dsimp only
    try rw [hf]
    rw [if_neg (by decide)]
    rw [if_neg (by decide), if_neg (by decide), if_neg (by decide), if_neg (by decide)]
    rw [fix_op op ho, ref_s s0 s1, ref_t t0 t1, ref_d d0 d1, ref_a a0 a1, ref_sub hsub]
    have z0 := s2 rfl
    simp only [z0, dg_zero, W_or, Nat.zero_or, Nat.or_zero]
  have hq' := Bool.eq_false_iff.2 hq
  rw [hq', if_neg (by decide), if_neg (by decide)]
theorem enc_dts (k : Nat) (nm form : ByteArray) (x : Nums) (op sub : Nat) (ho : op < 64) (h1' : op ≠ 1) (hsub : sub < 64) (hf : form.toList = [100, 116, 115]) (hsp : ferryref07_special.f nm = some ((op : Int), (sub : Int), 0, form)) (h0 : 0 ≤ x.i) (h1 : x.i ≤ 4294967295) :
    ferryref07_Encode.f (k + 1) nm x.s x.t x.d x.a x.i = some (if fitIf nm.toList [100, 116, 115] (fitsOf x.s true) (fitsOf x.t true) (fitsOf x.d true) (fitsOf x.a false) (decide (1 ≤ x.i)) x.d x.a = true then ((W op (dg x.s) (dg x.t) (dg x.d) 0 sub : Int), true) else (0, false)) := by
  have hfit : ferryref07_fit.f nm x.s x.t x.d x.a x.i (op : Int) (sub : Int) 0 form = some (fitIf nm.toList [100, 116, 115] (fitsOf x.s true) (fitsOf x.t true) (fitsOf x.d true) (fitsOf x.a false) (decide (1 ≤ x.i)) x.d x.a) := by
    unfold ferryref07_fit.f
    rw [hf, show regsOf [100, 116, 115] = some ([100, 116, 115], (true, true, true, false), 0) from rfl]
    rfl
  unfold ferryref07_Encode.f
  rw [hsp, Option.bind_some]
  dsimp only
  rw [hfit, Option.bind_some]
  by_cases hq : fitIf nm.toList [100, 116, 115] (fitsOf x.s true) (fitsOf x.t true) (fitsOf x.d true) (fitsOf x.a false) (decide (1 ≤ x.i)) x.d x.a = true
  · rw [hq, if_pos rfl, if_pos rfl]
    obtain ⟨p1, p2, p3, p4, p5⟩ := fit_parts hq
    obtain ⟨s0, s1, s2⟩ := fits_bound p1
    obtain ⟨t0, t1, t2⟩ := fits_bound p2
    obtain ⟨d0, d1, d2⟩ := fits_bound p3
    obtain ⟨a0, a1, a2⟩ := fits_bound p4
    have i1 : x.i < 1 := by simpa using p5
    clear hq p1 p2 p3 p4 p5 hfit hsp
    rw [hf]
    rw [if_neg (by decide), if_neg (by decide), if_neg (by decide), if_neg (by decide), if_neg (by decide), if_neg (by decide)]
    unfold ferryref07_Encode.j0
    dsimp only
    try rw [hf]
    rw [if_neg (by decide)]
    rw [if_neg (by decide), if_neg (by decide), if_neg (by decide), if_neg (by decide)]
    rw [fix_op op ho, ref_s s0 s1, ref_t t0 t1, ref_d d0 d1, ref_a a0 a1, ref_sub hsub]
    have z0 := a2 rfl
    simp only [z0, dg_zero, W_or, Nat.zero_or, Nat.or_zero]
  have hq' := Bool.eq_false_iff.2 hq
  rw [hq', if_neg (by decide), if_neg (by decide)]
theorem enc_s (k : Nat) (nm form : ByteArray) (x : Nums) (op sub : Nat) (ho : op < 64) (h1' : op ≠ 1) (hsub : sub < 64) (hf : form.toList = [115]) (hsp : ferryref07_special.f nm = some ((op : Int), (sub : Int), 0, form)) (h0 : 0 ≤ x.i) (h1 : x.i ≤ 4294967295) :
    ferryref07_Encode.f (k + 1) nm x.s x.t x.d x.a x.i = some (if fitIf nm.toList [115] (fitsOf x.s true) (fitsOf x.t false) (fitsOf x.d false) (fitsOf x.a false) (decide (1 ≤ x.i)) x.d x.a = true then ((W op (dg x.s) 0 0 0 sub : Int), true) else (0, false)) := by
  have hfit : ferryref07_fit.f nm x.s x.t x.d x.a x.i (op : Int) (sub : Int) 0 form = some (fitIf nm.toList [115] (fitsOf x.s true) (fitsOf x.t false) (fitsOf x.d false) (fitsOf x.a false) (decide (1 ≤ x.i)) x.d x.a) := by
    unfold ferryref07_fit.f
    rw [hf, show regsOf [115] = some ([115], (true, false, false, false), 0) from rfl]
    rfl
  unfold ferryref07_Encode.f
  rw [hsp, Option.bind_some]
  dsimp only
  rw [hfit, Option.bind_some]
  by_cases hq : fitIf nm.toList [115] (fitsOf x.s true) (fitsOf x.t false) (fitsOf x.d false) (fitsOf x.a false) (decide (1 ≤ x.i)) x.d x.a = true
  · rw [hq, if_pos rfl, if_pos rfl]
    obtain ⟨p1, p2, p3, p4, p5⟩ := fit_parts hq
    obtain ⟨s0, s1, s2⟩ := fits_bound p1
    obtain ⟨t0, t1, t2⟩ := fits_bound p2
    obtain ⟨d0, d1, d2⟩ := fits_bound p3
    obtain ⟨a0, a1, a2⟩ := fits_bound p4
    have i1 : x.i < 1 := by simpa using p5
    clear hq p1 p2 p3 p4 p5 hfit hsp
    rw [hf]
    rw [if_neg (by decide), if_neg (by decide), if_neg (by decide), if_neg (by decide), if_neg (by decide), if_neg (by decide)]
    unfold ferryref07_Encode.j0
    dsimp only
    try rw [hf]
    rw [if_neg (by decide)]
    rw [if_neg (by decide), if_neg (by decide), if_neg (by decide), if_neg (by decide)]
    rw [fix_op op ho, ref_s s0 s1, ref_t t0 t1, ref_d d0 d1, ref_a a0 a1, ref_sub hsub]
    have z0 := t2 rfl
    have z1 := d2 rfl
    have z2 := a2 rfl
    simp only [z0, z1, z2, dg_zero, W_or, Nat.zero_or, Nat.or_zero]
  have hq' := Bool.eq_false_iff.2 hq
  rw [hq', if_neg (by decide), if_neg (by decide)]
theorem enc_ds (k : Nat) (nm form : ByteArray) (x : Nums) (op sub : Nat) (ho : op < 64) (h1' : op ≠ 1) (hsub : sub < 64) (hf : form.toList = [100, 115]) (hsp : ferryref07_special.f nm = some ((op : Int), (sub : Int), 0, form)) (h0 : 0 ≤ x.i) (h1 : x.i ≤ 4294967295) :
    ferryref07_Encode.f (k + 1) nm x.s x.t x.d x.a x.i = some (if fitIf nm.toList [100, 115] (fitsOf x.s true) (fitsOf x.t false) (fitsOf x.d true) (fitsOf x.a false) (decide (1 ≤ x.i)) x.d x.a = true then ((W op (dg x.s) 0 (dg x.d) 0 sub : Int), true) else (0, false)) := by
  have hfit : ferryref07_fit.f nm x.s x.t x.d x.a x.i (op : Int) (sub : Int) 0 form = some (fitIf nm.toList [100, 115] (fitsOf x.s true) (fitsOf x.t false) (fitsOf x.d true) (fitsOf x.a false) (decide (1 ≤ x.i)) x.d x.a) := by
    unfold ferryref07_fit.f
    rw [hf, show regsOf [100, 115] = some ([100, 115], (true, false, true, false), 0) from rfl]
    rfl
  unfold ferryref07_Encode.f
  rw [hsp, Option.bind_some]
  dsimp only
  rw [hfit, Option.bind_some]
  by_cases hq : fitIf nm.toList [100, 115] (fitsOf x.s true) (fitsOf x.t false) (fitsOf x.d true) (fitsOf x.a false) (decide (1 ≤ x.i)) x.d x.a = true
  · rw [hq, if_pos rfl, if_pos rfl]
    obtain ⟨p1, p2, p3, p4, p5⟩ := fit_parts hq
    obtain ⟨s0, s1, s2⟩ := fits_bound p1
    obtain ⟨t0, t1, t2⟩ := fits_bound p2
    obtain ⟨d0, d1, d2⟩ := fits_bound p3
    obtain ⟨a0, a1, a2⟩ := fits_bound p4
    have i1 : x.i < 1 := by simpa using p5
    clear hq p1 p2 p3 p4 p5 hfit hsp
    rw [hf]
    rw [if_neg (by decide), if_neg (by decide), if_neg (by decide), if_neg (by decide), if_neg (by decide), if_neg (by decide)]
    unfold ferryref07_Encode.j0
    dsimp only
    try rw [hf]
    rw [if_neg (by decide)]
    rw [if_neg (by decide), if_neg (by decide), if_neg (by decide), if_neg (by decide)]
    rw [fix_op op ho, ref_s s0 s1, ref_t t0 t1, ref_d d0 d1, ref_a a0 a1, ref_sub hsub]
    have z0 := t2 rfl
    have z1 := a2 rfl
    simp only [z0, z1, dg_zero, W_or, Nat.zero_or, Nat.or_zero]
  have hq' := Bool.eq_false_iff.2 hq
  rw [hq', if_neg (by decide), if_neg (by decide)]
theorem enc_dst (k : Nat) (nm form : ByteArray) (x : Nums) (op sub : Nat) (ho : op < 64) (h1' : op ≠ 1) (hsub : sub < 64) (hf : form.toList = [100, 115, 116]) (hsp : ferryref07_special.f nm = some ((op : Int), (sub : Int), 0, form)) (h0 : 0 ≤ x.i) (h1 : x.i ≤ 4294967295) :
    ferryref07_Encode.f (k + 1) nm x.s x.t x.d x.a x.i = some (if fitIf nm.toList [100, 115, 116] (fitsOf x.s true) (fitsOf x.t true) (fitsOf x.d true) (fitsOf x.a false) (decide (1 ≤ x.i)) x.d x.a = true then ((W op (dg x.s) (dg x.t) (dg x.d) 0 sub : Int), true) else (0, false)) := by
  have hfit : ferryref07_fit.f nm x.s x.t x.d x.a x.i (op : Int) (sub : Int) 0 form = some (fitIf nm.toList [100, 115, 116] (fitsOf x.s true) (fitsOf x.t true) (fitsOf x.d true) (fitsOf x.a false) (decide (1 ≤ x.i)) x.d x.a) := by
    unfold ferryref07_fit.f
    rw [hf, show regsOf [100, 115, 116] = some ([100, 115, 116], (true, true, true, false), 0) from rfl]
    rfl
  unfold ferryref07_Encode.f
  rw [hsp, Option.bind_some]
  dsimp only
  rw [hfit, Option.bind_some]
  by_cases hq : fitIf nm.toList [100, 115, 116] (fitsOf x.s true) (fitsOf x.t true) (fitsOf x.d true) (fitsOf x.a false) (decide (1 ≤ x.i)) x.d x.a = true
  · rw [hq, if_pos rfl, if_pos rfl]
    obtain ⟨p1, p2, p3, p4, p5⟩ := fit_parts hq
    obtain ⟨s0, s1, s2⟩ := fits_bound p1
    obtain ⟨t0, t1, t2⟩ := fits_bound p2
    obtain ⟨d0, d1, d2⟩ := fits_bound p3
    obtain ⟨a0, a1, a2⟩ := fits_bound p4
    have i1 : x.i < 1 := by simpa using p5
    clear hq p1 p2 p3 p4 p5 hfit hsp
    rw [hf]
    rw [if_neg (by decide), if_neg (by decide), if_neg (by decide), if_neg (by decide), if_neg (by decide), if_neg (by decide)]
    unfold ferryref07_Encode.j0
    dsimp only
    try rw [hf]
    rw [if_neg (by decide)]
    rw [if_neg (by decide), if_neg (by decide), if_neg (by decide), if_neg (by decide)]
    rw [fix_op op ho, ref_s s0 s1, ref_t t0 t1, ref_d d0 d1, ref_a a0 a1, ref_sub hsub]
    have z0 := a2 rfl
    simp only [z0, dg_zero, W_or, Nat.zero_or, Nat.or_zero]
  have hq' := Bool.eq_false_iff.2 hq
  rw [hq', if_neg (by decide), if_neg (by decide)]
theorem enc_c (k : Nat) (nm form : ByteArray) (x : Nums) (op sub : Nat) (ho : op < 64) (h1' : op ≠ 1) (hsub : sub < 64) (hf : form.toList = [99]) (hsp : ferryref07_special.f nm = some ((op : Int), (sub : Int), 0, form)) (h0 : 0 ≤ x.i) (h1 : x.i ≤ 4294967295) :
    ferryref07_Encode.f (k + 1) nm x.s x.t x.d x.a x.i = some (if fitIf nm.toList [99] (fitsOf x.s false) (fitsOf x.t false) (fitsOf x.d false) (fitsOf x.a false) (decide (1048576 ≤ x.i)) x.d x.a = true then ((W op (x.i.toNat / 32768) (x.i.toNat / 1024) (x.i.toNat / 32) x.i.toNat sub : Int), true) else (0, false)) := by
  have hfit : ferryref07_fit.f nm x.s x.t x.d x.a x.i (op : Int) (sub : Int) 0 form = some (fitIf nm.toList [99] (fitsOf x.s false) (fitsOf x.t false) (fitsOf x.d false) (fitsOf x.a false) (decide (1048576 ≤ x.i)) x.d x.a) := by
    unfold ferryref07_fit.f
    rw [hf, show regsOf [99] = some ([99], (false, false, false, false), 20) from rfl]
    rfl
  unfold ferryref07_Encode.f
  rw [hsp, Option.bind_some]
  dsimp only
  rw [hfit, Option.bind_some]
  by_cases hq : fitIf nm.toList [99] (fitsOf x.s false) (fitsOf x.t false) (fitsOf x.d false) (fitsOf x.a false) (decide (1048576 ≤ x.i)) x.d x.a = true
  · rw [hq, if_pos rfl, if_pos rfl]
    obtain ⟨p1, p2, p3, p4, p5⟩ := fit_parts hq
    obtain ⟨s0, s1, s2⟩ := fits_bound p1
    obtain ⟨t0, t1, t2⟩ := fits_bound p2
    obtain ⟨d0, d1, d2⟩ := fits_bound p3
    obtain ⟨a0, a1, a2⟩ := fits_bound p4
    have i1 : x.i < 1048576 := by simpa using p5
    clear hq p1 p2 p3 p4 p5 hfit hsp
    rw [hf]
    rw [if_neg (by decide), if_pos rfl]
    rw [fix_op op ho, ref_i20 h0 i1, ref_sub hsub]
    simp only [W_or, Nat.zero_or, Nat.or_zero]
  have hq' := Bool.eq_false_iff.2 hq
  rw [hq', if_neg (by decide), if_neg (by decide)]
theorem enc_d (k : Nat) (nm form : ByteArray) (x : Nums) (op sub : Nat) (ho : op < 64) (h1' : op ≠ 1) (hsub : sub < 64) (hf : form.toList = [100]) (hsp : ferryref07_special.f nm = some ((op : Int), (sub : Int), 0, form)) (h0 : 0 ≤ x.i) (h1 : x.i ≤ 4294967295) :
    ferryref07_Encode.f (k + 1) nm x.s x.t x.d x.a x.i = some (if fitIf nm.toList [100] (fitsOf x.s false) (fitsOf x.t false) (fitsOf x.d true) (fitsOf x.a false) (decide (1 ≤ x.i)) x.d x.a = true then ((W op 0 0 (dg x.d) 0 sub : Int), true) else (0, false)) := by
  have hfit : ferryref07_fit.f nm x.s x.t x.d x.a x.i (op : Int) (sub : Int) 0 form = some (fitIf nm.toList [100] (fitsOf x.s false) (fitsOf x.t false) (fitsOf x.d true) (fitsOf x.a false) (decide (1 ≤ x.i)) x.d x.a) := by
    unfold ferryref07_fit.f
    rw [hf, show regsOf [100] = some ([100], (false, false, true, false), 0) from rfl]
    rfl
  unfold ferryref07_Encode.f
  rw [hsp, Option.bind_some]
  dsimp only
  rw [hfit, Option.bind_some]
  by_cases hq : fitIf nm.toList [100] (fitsOf x.s false) (fitsOf x.t false) (fitsOf x.d true) (fitsOf x.a false) (decide (1 ≤ x.i)) x.d x.a = true
  · rw [hq, if_pos rfl, if_pos rfl]
    obtain ⟨p1, p2, p3, p4, p5⟩ := fit_parts hq
    obtain ⟨s0, s1, s2⟩ := fits_bound p1
    obtain ⟨t0, t1, t2⟩ := fits_bound p2
    obtain ⟨d0, d1, d2⟩ := fits_bound p3
    obtain ⟨a0, a1, a2⟩ := fits_bound p4
    have i1 : x.i < 1 := by simpa using p5
    clear hq p1 p2 p3 p4 p5 hfit hsp
    rw [hf]
    rw [if_neg (by decide), if_neg (by decide), if_neg (by decide), if_neg (by decide), if_neg (by decide), if_neg (by decide)]
    unfold ferryref07_Encode.j0
    dsimp only
    try rw [hf]
    rw [if_neg (by decide)]
    rw [if_neg (by decide), if_neg (by decide), if_neg (by decide), if_neg (by decide)]
    rw [fix_op op ho, ref_s s0 s1, ref_t t0 t1, ref_d d0 d1, ref_a a0 a1, ref_sub hsub]
    have z0 := s2 rfl
    have z1 := t2 rfl
    have z2 := a2 rfl
    simp only [z0, z1, z2, dg_zero, W_or, Nat.zero_or, Nat.or_zero]
  have hq' := Bool.eq_false_iff.2 hq
  rw [hq', if_neg (by decide), if_neg (by decide)]
theorem enc_st (k : Nat) (nm form : ByteArray) (x : Nums) (op sub : Nat) (ho : op < 64) (h1' : op ≠ 1) (hsub : sub < 64) (hf : form.toList = [115, 116]) (hsp : ferryref07_special.f nm = some ((op : Int), (sub : Int), 0, form)) (h0 : 0 ≤ x.i) (h1 : x.i ≤ 4294967295) :
    ferryref07_Encode.f (k + 1) nm x.s x.t x.d x.a x.i = some (if fitIf nm.toList [115, 116] (fitsOf x.s true) (fitsOf x.t true) (fitsOf x.d false) (fitsOf x.a false) (decide (1 ≤ x.i)) x.d x.a = true then ((W op (dg x.s) (dg x.t) 0 0 sub : Int), true) else (0, false)) := by
  have hfit : ferryref07_fit.f nm x.s x.t x.d x.a x.i (op : Int) (sub : Int) 0 form = some (fitIf nm.toList [115, 116] (fitsOf x.s true) (fitsOf x.t true) (fitsOf x.d false) (fitsOf x.a false) (decide (1 ≤ x.i)) x.d x.a) := by
    unfold ferryref07_fit.f
    rw [hf, show regsOf [115, 116] = some ([115, 116], (true, true, false, false), 0) from rfl]
    rfl
  unfold ferryref07_Encode.f
  rw [hsp, Option.bind_some]
  dsimp only
  rw [hfit, Option.bind_some]
  by_cases hq : fitIf nm.toList [115, 116] (fitsOf x.s true) (fitsOf x.t true) (fitsOf x.d false) (fitsOf x.a false) (decide (1 ≤ x.i)) x.d x.a = true
  · rw [hq, if_pos rfl, if_pos rfl]
    obtain ⟨p1, p2, p3, p4, p5⟩ := fit_parts hq
    obtain ⟨s0, s1, s2⟩ := fits_bound p1
    obtain ⟨t0, t1, t2⟩ := fits_bound p2
    obtain ⟨d0, d1, d2⟩ := fits_bound p3
    obtain ⟨a0, a1, a2⟩ := fits_bound p4
    have i1 : x.i < 1 := by simpa using p5
    clear hq p1 p2 p3 p4 p5 hfit hsp
    rw [hf]
    rw [if_neg (by decide), if_neg (by decide), if_neg (by decide), if_neg (by decide), if_neg (by decide), if_neg (by decide)]
    unfold ferryref07_Encode.j0
    dsimp only
    try rw [hf]
    rw [if_neg (by decide)]
    rw [if_neg (by decide), if_neg (by decide), if_neg (by decide), if_neg (by decide)]
    rw [fix_op op ho, ref_s s0 s1, ref_t t0 t1, ref_d d0 d1, ref_a a0 a1, ref_sub hsub]
    have z0 := d2 rfl
    have z1 := a2 rfl
    simp only [z0, z1, dg_zero, W_or, Nat.zero_or, Nat.or_zero]
  have hq' := Bool.eq_false_iff.2 hq
  rw [hq', if_neg (by decide), if_neg (by decide)]
theorem enc_dtr (k : Nat) (nm form : ByteArray) (x : Nums) (op sub : Nat) (ho : op < 64) (h1' : op ≠ 1) (hsub : sub < 64) (hf : form.toList = [100, 116, 114]) (hsp : ferryref07_special.f nm = some ((op : Int), (sub : Int), 0, form)) (h0 : 0 ≤ x.i) (h1 : x.i ≤ 4294967295) :
    ferryref07_Encode.f (k + 1) nm x.s x.t x.d x.a x.i = some (if fitIf nm.toList [100, 116, 114] (fitsOf x.s false) (fitsOf x.t true) (fitsOf x.d true) (fitsOf x.a true) (decide (1 ≤ x.i)) x.d x.a = true then ((W op 1 (dg x.t) (dg x.d) (dg x.a) sub : Int), true) else (0, false)) := by
  have hfit : ferryref07_fit.f nm x.s x.t x.d x.a x.i (op : Int) (sub : Int) 0 form = some (fitIf nm.toList [100, 116, 114] (fitsOf x.s false) (fitsOf x.t true) (fitsOf x.d true) (fitsOf x.a true) (decide (1 ≤ x.i)) x.d x.a) := by
    unfold ferryref07_fit.f
    rw [hf, show regsOf [100, 116, 114] = some ([100, 116, 114], (false, true, true, true), 0) from rfl]
    rfl
  unfold ferryref07_Encode.f
  rw [hsp, Option.bind_some]
  dsimp only
  rw [hfit, Option.bind_some]
  by_cases hq : fitIf nm.toList [100, 116, 114] (fitsOf x.s false) (fitsOf x.t true) (fitsOf x.d true) (fitsOf x.a true) (decide (1 ≤ x.i)) x.d x.a = true
  · rw [hq, if_pos rfl, if_pos rfl]
    obtain ⟨p1, p2, p3, p4, p5⟩ := fit_parts hq
    obtain ⟨s0, s1, s2⟩ := fits_bound p1
    obtain ⟨t0, t1, t2⟩ := fits_bound p2
    obtain ⟨d0, d1, d2⟩ := fits_bound p3
    obtain ⟨a0, a1, a2⟩ := fits_bound p4
    have i1 : x.i < 1 := by simpa using p5
    clear hq p1 p2 p3 p4 p5 hfit hsp
    rw [hf]
    rw [if_neg (by decide), if_neg (by decide), if_neg (by decide), if_neg (by decide), if_neg (by decide), if_neg (by decide)]
    unfold ferryref07_Encode.j0
    dsimp only
    try rw [hf]
    rw [if_neg (by decide)]
    rw [if_neg (by decide), if_pos rfl]
    rw [fix_op op ho, ref_c2, ref_t t0 t1, ref_d d0 d1, ref_a a0 a1, ref_sub hsub]
    have z0 := s2 rfl
    simp only [z0, dg_zero, W_or, Nat.zero_or, Nat.or_zero]
  have hq' := Bool.eq_false_iff.2 hq
  rw [hq', if_neg (by decide), if_neg (by decide)]
theorem enc_dtv (k : Nat) (nm form : ByteArray) (x : Nums) (op sub : Nat) (ho : op < 64) (h1' : op ≠ 1) (hsub : sub < 64) (hf : form.toList = [100, 116, 118]) (hsp : ferryref07_special.f nm = some ((op : Int), (sub : Int), 0, form)) (h0 : 0 ≤ x.i) (h1 : x.i ≤ 4294967295) :
    ferryref07_Encode.f (k + 1) nm x.s x.t x.d x.a x.i = some (if fitIf nm.toList [100, 116, 118] (fitsOf x.s true) (fitsOf x.t true) (fitsOf x.d true) (fitsOf x.a false) (decide (1 ≤ x.i)) x.d x.a = true then ((W op (dg x.s) (dg x.t) (dg x.d) 1 sub : Int), true) else (0, false)) := by
  have hfit : ferryref07_fit.f nm x.s x.t x.d x.a x.i (op : Int) (sub : Int) 0 form = some (fitIf nm.toList [100, 116, 118] (fitsOf x.s true) (fitsOf x.t true) (fitsOf x.d true) (fitsOf x.a false) (decide (1 ≤ x.i)) x.d x.a) := by
    unfold ferryref07_fit.f
    rw [hf, show regsOf [100, 116, 118] = some ([100, 116, 118], (true, true, true, false), 0) from rfl]
    rfl
  unfold ferryref07_Encode.f
  rw [hsp, Option.bind_some]
  dsimp only
  rw [hfit, Option.bind_some]
  by_cases hq : fitIf nm.toList [100, 116, 118] (fitsOf x.s true) (fitsOf x.t true) (fitsOf x.d true) (fitsOf x.a false) (decide (1 ≤ x.i)) x.d x.a = true
  · rw [hq, if_pos rfl, if_pos rfl]
    obtain ⟨p1, p2, p3, p4, p5⟩ := fit_parts hq
    obtain ⟨s0, s1, s2⟩ := fits_bound p1
    obtain ⟨t0, t1, t2⟩ := fits_bound p2
    obtain ⟨d0, d1, d2⟩ := fits_bound p3
    obtain ⟨a0, a1, a2⟩ := fits_bound p4
    have i1 : x.i < 1 := by simpa using p5
    clear hq p1 p2 p3 p4 p5 hfit hsp
    rw [hf]
    rw [if_neg (by decide), if_neg (by decide), if_neg (by decide), if_neg (by decide), if_neg (by decide), if_neg (by decide)]
    unfold ferryref07_Encode.j0
    dsimp only
    try rw [hf]
    rw [if_neg (by decide)]
    rw [if_neg (by decide), if_neg (by decide), if_pos rfl]
    rw [fix_op op ho, ref_s s0 s1, ref_t t0 t1, ref_d d0 d1, ref_c3, ref_sub hsub]
    have z0 := a2 rfl
    simp only [z0, dg_zero, W_or, Nat.zero_or, Nat.or_zero]
  have hq' := Bool.eq_false_iff.2 hq
  rw [hq', if_neg (by decide), if_neg (by decide)]
theorem enc_so (k : Nat) (nm form : ByteArray) (x : Nums) (op sub : Nat) (ho : op < 64) (h1' : op ≠ 1) (hsub : sub = 0) (hf : form.toList = [115, 111]) (hsp : ferryref07_special.f nm = some ((op : Int), (sub : Int), 0, form)) (h0 : 0 ≤ x.i) (h1 : x.i ≤ 4294967295) :
    ferryref07_Encode.f (k + 1) nm x.s x.t x.d x.a x.i = some (if fitIf nm.toList [115, 111] (fitsOf x.s true) (fitsOf x.t false) (fitsOf x.d false) (fitsOf x.a false) (decide (65536 ≤ x.i)) x.d x.a = true then ((W op (dg x.s) 0 (x.i.toNat / 2048) (x.i.toNat / 64) x.i.toNat : Int), true) else (0, false)) := by
  have hfit : ferryref07_fit.f nm x.s x.t x.d x.a x.i (op : Int) (sub : Int) 0 form = some (fitIf nm.toList [115, 111] (fitsOf x.s true) (fitsOf x.t false) (fitsOf x.d false) (fitsOf x.a false) (decide (65536 ≤ x.i)) x.d x.a) := by
    unfold ferryref07_fit.f
    rw [hf, show regsOf [115, 111] = some ([115, 111], (true, false, false, false), 16) from rfl]
    rfl
  unfold ferryref07_Encode.f
  rw [hsp, Option.bind_some]
  dsimp only
  rw [hfit, Option.bind_some]
  by_cases hq : fitIf nm.toList [115, 111] (fitsOf x.s true) (fitsOf x.t false) (fitsOf x.d false) (fitsOf x.a false) (decide (65536 ≤ x.i)) x.d x.a = true
  · rw [hq, if_pos rfl, if_pos rfl]
    obtain ⟨p1, p2, p3, p4, p5⟩ := fit_parts hq
    obtain ⟨s0, s1, s2⟩ := fits_bound p1
    obtain ⟨t0, t1, t2⟩ := fits_bound p2
    obtain ⟨d0, d1, d2⟩ := fits_bound p3
    obtain ⟨a0, a1, a2⟩ := fits_bound p4
    have i1 : x.i < 65536 := by simpa using p5
    clear hq p1 p2 p3 p4 p5 hfit hsp
    rw [hf]
    rw [if_neg (by decide), if_neg (by decide), if_pos rfl]
    unfold ferryref07_Encode.j0
    dsimp only
    try rw [hf]
    rw [if_pos (by decide)]
    have ei := ref_i16 h0 i1
    generalize x.i.toNat = m at ei ⊢
    rw [if_neg (show ¬ ((op : Int) = 1) by omega), fix_op op ho, ref_s s0 s1, ref_t t0 t1, ei]
    subst hsub
    have z0 := t2 rfl
    have z1 := d2 rfl
    have z2 := a2 rfl
    simp only [z0, z1, z2, dg_zero, W_or, Nat.zero_or, Nat.or_zero]
  have hq' := Bool.eq_false_iff.2 hq
  rw [hq', if_neg (by decide), if_neg (by decide)]
theorem enc_j (k : Nat) (nm form : ByteArray) (x : Nums) (op sub : Nat) (ho : op < 64) (h1' : op ≠ 1) (hsub : sub = 0) (hf : form.toList = [106]) (hsp : ferryref07_special.f nm = some ((op : Int), (sub : Int), 0, form)) (h0 : 0 ≤ x.i) (h1 : x.i ≤ 4294967295) :
    ferryref07_Encode.f (k + 1) nm x.s x.t x.d x.a x.i = some (if fitIf nm.toList [106] (fitsOf x.s false) (fitsOf x.t false) (fitsOf x.d false) (fitsOf x.a false) (decide (67108864 ≤ x.i)) x.d x.a = true then ((W op (x.i.toNat / 2097152) (x.i.toNat / 65536) (x.i.toNat / 2048) (x.i.toNat / 64) x.i.toNat : Int), true) else (0, false)) := by
  have hfit : ferryref07_fit.f nm x.s x.t x.d x.a x.i (op : Int) (sub : Int) 0 form = some (fitIf nm.toList [106] (fitsOf x.s false) (fitsOf x.t false) (fitsOf x.d false) (fitsOf x.a false) (decide (67108864 ≤ x.i)) x.d x.a) := by
    unfold ferryref07_fit.f
    rw [hf, show regsOf [106] = some ([106], (false, false, false, false), 26) from rfl]
    rfl
  unfold ferryref07_Encode.f
  rw [hsp, Option.bind_some]
  dsimp only
  rw [hfit, Option.bind_some]
  by_cases hq : fitIf nm.toList [106] (fitsOf x.s false) (fitsOf x.t false) (fitsOf x.d false) (fitsOf x.a false) (decide (67108864 ≤ x.i)) x.d x.a = true
  · rw [hq, if_pos rfl, if_pos rfl]
    obtain ⟨p1, p2, p3, p4, p5⟩ := fit_parts hq
    obtain ⟨s0, s1, s2⟩ := fits_bound p1
    obtain ⟨t0, t1, t2⟩ := fits_bound p2
    obtain ⟨d0, d1, d2⟩ := fits_bound p3
    obtain ⟨a0, a1, a2⟩ := fits_bound p4
    have i1 : x.i < 67108864 := by simpa using p5
    clear hq p1 p2 p3 p4 p5 hfit hsp
    rw [hf]
    rw [if_pos rfl]
    have ei := ref_i26 h0 i1
    generalize x.i.toNat = m at ei ⊢
    rw [fix_op op ho, ei]
    subst hsub
    simp only [W_or, Nat.zero_or, Nat.or_zero]
  have hq' := Bool.eq_false_iff.2 hq
  rw [hq', if_neg (by decide), if_neg (by decide)]
theorem enc_sto (k : Nat) (nm form : ByteArray) (x : Nums) (op sub : Nat) (ho : op < 64) (h1' : op ≠ 1) (hsub : sub = 0) (hf : form.toList = [115, 116, 111]) (hsp : ferryref07_special.f nm = some ((op : Int), (sub : Int), 0, form)) (h0 : 0 ≤ x.i) (h1 : x.i ≤ 4294967295) :
    ferryref07_Encode.f (k + 1) nm x.s x.t x.d x.a x.i = some (if fitIf nm.toList [115, 116, 111] (fitsOf x.s true) (fitsOf x.t true) (fitsOf x.d false) (fitsOf x.a false) (decide (65536 ≤ x.i)) x.d x.a = true then ((W op (dg x.s) (dg x.t) (x.i.toNat / 2048) (x.i.toNat / 64) x.i.toNat : Int), true) else (0, false)) := by
  have hfit : ferryref07_fit.f nm x.s x.t x.d x.a x.i (op : Int) (sub : Int) 0 form = some (fitIf nm.toList [115, 116, 111] (fitsOf x.s true) (fitsOf x.t true) (fitsOf x.d false) (fitsOf x.a false) (decide (65536 ≤ x.i)) x.d x.a) := by
    unfold ferryref07_fit.f
    rw [hf, show regsOf [115, 116, 111] = some ([115, 116, 111], (true, true, false, false), 16) from rfl]
    rfl
  unfold ferryref07_Encode.f
  rw [hsp, Option.bind_some]
  dsimp only
  rw [hfit, Option.bind_some]
  by_cases hq : fitIf nm.toList [115, 116, 111] (fitsOf x.s true) (fitsOf x.t true) (fitsOf x.d false) (fitsOf x.a false) (decide (65536 ≤ x.i)) x.d x.a = true
  · rw [hq, if_pos rfl, if_pos rfl]
    obtain ⟨p1, p2, p3, p4, p5⟩ := fit_parts hq
    obtain ⟨s0, s1, s2⟩ := fits_bound p1
    obtain ⟨t0, t1, t2⟩ := fits_bound p2
    obtain ⟨d0, d1, d2⟩ := fits_bound p3
    obtain ⟨a0, a1, a2⟩ := fits_bound p4
    have i1 : x.i < 65536 := by simpa using p5
    clear hq p1 p2 p3 p4 p5 hfit hsp
    rw [hf]
    rw [if_neg (by decide), if_neg (by decide), if_neg (by decide), if_pos rfl]
    unfold ferryref07_Encode.j0
    dsimp only
    try rw [hf]
    rw [if_pos (by decide)]
    have ei := ref_i16 h0 i1
    generalize x.i.toNat = m at ei ⊢
    rw [if_neg (show ¬ ((op : Int) = 1) by omega), fix_op op ho, ref_s s0 s1, ref_t t0 t1, ei]
    subst hsub
    have z0 := d2 rfl
    have z1 := a2 rfl
    simp only [z0, z1, dg_zero, W_or, Nat.zero_or, Nat.or_zero]
  have hq' := Bool.eq_false_iff.2 hq
  rw [hq', if_neg (by decide), if_neg (by decide)]
theorem enc_tsi (k : Nat) (nm form : ByteArray) (x : Nums) (op sub : Nat) (ho : op < 64) (h1' : op ≠ 1) (hsub : sub = 0) (hf : form.toList = [116, 115, 105]) (hsp : ferryref07_special.f nm = some ((op : Int), (sub : Int), 0, form)) (h0 : 0 ≤ x.i) (h1 : x.i ≤ 4294967295) :
    ferryref07_Encode.f (k + 1) nm x.s x.t x.d x.a x.i = some (if fitIf nm.toList [116, 115, 105] (fitsOf x.s true) (fitsOf x.t true) (fitsOf x.d false) (fitsOf x.a false) (decide (65536 ≤ x.i)) x.d x.a = true then ((W op (dg x.s) (dg x.t) (x.i.toNat / 2048) (x.i.toNat / 64) x.i.toNat : Int), true) else (0, false)) := by
  have hfit : ferryref07_fit.f nm x.s x.t x.d x.a x.i (op : Int) (sub : Int) 0 form = some (fitIf nm.toList [116, 115, 105] (fitsOf x.s true) (fitsOf x.t true) (fitsOf x.d false) (fitsOf x.a false) (decide (65536 ≤ x.i)) x.d x.a) := by
    unfold ferryref07_fit.f
    rw [hf, show regsOf [116, 115, 105] = some ([116, 115, 105], (true, true, false, false), 16) from rfl]
    rfl
  unfold ferryref07_Encode.f
  rw [hsp, Option.bind_some]
  dsimp only
  rw [hfit, Option.bind_some]
  by_cases hq : fitIf nm.toList [116, 115, 105] (fitsOf x.s true) (fitsOf x.t true) (fitsOf x.d false) (fitsOf x.a false) (decide (65536 ≤ x.i)) x.d x.a = true
  · rw [hq, if_pos rfl, if_pos rfl]
    obtain ⟨p1, p2, p3, p4, p5⟩ := fit_parts hq
    obtain ⟨s0, s1, s2⟩ := fits_bound p1
    obtain ⟨t0, t1, t2⟩ := fits_bound p2
    obtain ⟨d0, d1, d2⟩ := fits_bound p3
    obtain ⟨a0, a1, a2⟩ := fits_bound p4
    have i1 : x.i < 65536 := by simpa using p5
    clear hq p1 p2 p3 p4 p5 hfit hsp
    rw [hf]
    rw [if_neg (by decide), if_neg (by decide), if_neg (by decide), if_neg (by decide), if_pos rfl]
    unfold ferryref07_Encode.j0
    dsimp only
    try rw [hf]
    rw [if_pos (by decide)]
    have ei := ref_i16 h0 i1
    generalize x.i.toNat = m at ei ⊢
    rw [if_neg (show ¬ ((op : Int) = 1) by omega), fix_op op ho, ref_s s0 s1, ref_t t0 t1, ei]
    subst hsub
    have z0 := d2 rfl
    have z1 := a2 rfl
    simp only [z0, z1, dg_zero, W_or, Nat.zero_or, Nat.or_zero]
  have hq' := Bool.eq_false_iff.2 hq
  rw [hq', if_neg (by decide), if_neg (by decide)]
theorem enc_ti (k : Nat) (nm form : ByteArray) (x : Nums) (op sub : Nat) (ho : op < 64) (h1' : op ≠ 1) (hsub : sub = 0) (hf : form.toList = [116, 105]) (hsp : ferryref07_special.f nm = some ((op : Int), (sub : Int), 0, form)) (h0 : 0 ≤ x.i) (h1 : x.i ≤ 4294967295) :
    ferryref07_Encode.f (k + 1) nm x.s x.t x.d x.a x.i = some (if fitIf nm.toList [116, 105] (fitsOf x.s false) (fitsOf x.t true) (fitsOf x.d false) (fitsOf x.a false) (decide (65536 ≤ x.i)) x.d x.a = true then ((W op 0 (dg x.t) (x.i.toNat / 2048) (x.i.toNat / 64) x.i.toNat : Int), true) else (0, false)) := by
  have hfit : ferryref07_fit.f nm x.s x.t x.d x.a x.i (op : Int) (sub : Int) 0 form = some (fitIf nm.toList [116, 105] (fitsOf x.s false) (fitsOf x.t true) (fitsOf x.d false) (fitsOf x.a false) (decide (65536 ≤ x.i)) x.d x.a) := by
    unfold ferryref07_fit.f
    rw [hf, show regsOf [116, 105] = some ([116, 105], (false, true, false, false), 16) from rfl]
    rfl
  unfold ferryref07_Encode.f
  rw [hsp, Option.bind_some]
  dsimp only
  rw [hfit, Option.bind_some]
  by_cases hq : fitIf nm.toList [116, 105] (fitsOf x.s false) (fitsOf x.t true) (fitsOf x.d false) (fitsOf x.a false) (decide (65536 ≤ x.i)) x.d x.a = true
  · rw [hq, if_pos rfl, if_pos rfl]
    obtain ⟨p1, p2, p3, p4, p5⟩ := fit_parts hq
    obtain ⟨s0, s1, s2⟩ := fits_bound p1
    obtain ⟨t0, t1, t2⟩ := fits_bound p2
    obtain ⟨d0, d1, d2⟩ := fits_bound p3
    obtain ⟨a0, a1, a2⟩ := fits_bound p4
    have i1 : x.i < 65536 := by simpa using p5
    clear hq p1 p2 p3 p4 p5 hfit hsp
    rw [hf]
    rw [if_neg (by decide), if_neg (by decide), if_neg (by decide), if_neg (by decide), if_neg (by decide), if_pos rfl]
    unfold ferryref07_Encode.j0
    dsimp only
    try rw [hf]
    rw [if_pos (by decide)]
    have ei := ref_i16 h0 i1
    generalize x.i.toNat = m at ei ⊢
    rw [if_neg (show ¬ ((op : Int) = 1) by omega), fix_op op ho, ref_s s0 s1, ref_t t0 t1, ei]
    subst hsub
    have z0 := s2 rfl
    have z1 := d2 rfl
    have z2 := a2 rfl
    simp only [z0, z1, z2, dg_zero, W_or, Nat.zero_or, Nat.or_zero]
  have hq' := Bool.eq_false_iff.2 hq
  rw [hq', if_neg (by decide), if_neg (by decide)]
theorem enc_dsd (k : Nat) (nm form : ByteArray) (x : Nums) (op sub : Nat) (ho : op < 64) (h1' : op ≠ 1) (hsub : sub < 64) (hf : form.toList = [100, 115, 100]) (hsp : ferryref07_special.f nm = some ((op : Int), (sub : Int), 0, form)) (h0 : 0 ≤ x.i) (h1 : x.i ≤ 4294967295) :
    ferryref07_Encode.f (k + 1) nm x.s x.t x.d x.a x.i = some (if fitIf nm.toList [100, 115, 100] (fitsOf x.s true) (fitsOf x.t false) (fitsOf x.d true) (fitsOf x.a false) (decide (1 ≤ x.i)) x.d x.a = true then ((W op (dg x.s) (dg x.d) (dg x.d) 0 sub : Int), true) else (0, false)) := by
  have hfit : ferryref07_fit.f nm x.s x.t x.d x.a x.i (op : Int) (sub : Int) 0 form = some (fitIf nm.toList [100, 115, 100] (fitsOf x.s true) (fitsOf x.t false) (fitsOf x.d true) (fitsOf x.a false) (decide (1 ≤ x.i)) x.d x.a) := by
    unfold ferryref07_fit.f
    rw [hf, show regsOf [100, 115, 100] = some ([100, 115, 100], (true, false, true, false), 0) from rfl]
    rfl
  unfold ferryref07_Encode.f
  rw [hsp, Option.bind_some]
  dsimp only
  rw [hfit, Option.bind_some]
  by_cases hq : fitIf nm.toList [100, 115, 100] (fitsOf x.s true) (fitsOf x.t false) (fitsOf x.d true) (fitsOf x.a false) (decide (1 ≤ x.i)) x.d x.a = true
  · rw [hq, if_pos rfl, if_pos rfl]
    obtain ⟨p1, p2, p3, p4, p5⟩ := fit_parts hq
    obtain ⟨s0, s1, s2⟩ := fits_bound p1
    obtain ⟨t0, t1, t2⟩ := fits_bound p2
    obtain ⟨d0, d1, d2⟩ := fits_bound p3
    obtain ⟨a0, a1, a2⟩ := fits_bound p4
    have i1 : x.i < 1 := by simpa using p5
    clear hq p1 p2 p3 p4 p5 hfit hsp
    rw [hf]
    rw [if_neg (by decide), if_neg (by decide), if_neg (by decide), if_neg (by decide), if_neg (by decide), if_neg (by decide)]
    unfold ferryref07_Encode.j0
    dsimp only
    try rw [hf]
    rw [if_neg (by decide)]
    rw [if_pos rfl]
    rw [fix_op op ho, ref_s s0 s1, ref_t d0 d1, ref_d d0 d1, ref_a a0 a1, ref_sub hsub]
    have z0 := t2 rfl
    have z1 := a2 rfl
    simp only [z0, z1, dg_zero, W_or, Nat.zero_or, Nat.or_zero]
  have hq' := Bool.eq_false_iff.2 hq
  rw [hq', if_neg (by decide), if_neg (by decide)]
theorem enc_tsx (k : Nat) (nm form : ByteArray) (x : Nums) (op sub : Nat) (ho : op < 64) (h1' : op ≠ 1) (hsub : sub < 64) (hf : form.toList = [116, 115, 120]) (hsp : ferryref07_special.f nm = some ((op : Int), (sub : Int), 0, form)) (h0 : 0 ≤ x.i) (h1 : x.i ≤ 4294967295) :
    ferryref07_Encode.f (k + 1) nm x.s x.t x.d x.a x.i = some (if fitIf nm.toList [116, 115, 120] (fitsOf x.s true) (fitsOf x.t true) (fitsOf x.d true) (fitsOf x.a true) (decide (1 ≤ x.i)) x.d x.a = true then ((W op (dg x.s) (dg x.t) (dg x.d) (dg x.a) sub : Int), true) else (0, false)) := by
  have hfit : ferryref07_fit.f nm x.s x.t x.d x.a x.i (op : Int) (sub : Int) 0 form = some (fitIf nm.toList [116, 115, 120] (fitsOf x.s true) (fitsOf x.t true) (fitsOf x.d true) (fitsOf x.a true) (decide (1 ≤ x.i)) x.d x.a) := by
    unfold ferryref07_fit.f
    rw [hf, show regsOf [116, 115, 120] = some ([116, 115, 120], (true, true, true, true), 0) from rfl]
    rfl
  unfold ferryref07_Encode.f
  rw [hsp, Option.bind_some]
  dsimp only
  rw [hfit, Option.bind_some]
  by_cases hq : fitIf nm.toList [116, 115, 120] (fitsOf x.s true) (fitsOf x.t true) (fitsOf x.d true) (fitsOf x.a true) (decide (1 ≤ x.i)) x.d x.a = true
  · rw [hq, if_pos rfl, if_pos rfl]
    obtain ⟨p1, p2, p3, p4, p5⟩ := fit_parts hq
    obtain ⟨s0, s1, s2⟩ := fits_bound p1
    obtain ⟨t0, t1, t2⟩ := fits_bound p2
    obtain ⟨d0, d1, d2⟩ := fits_bound p3
    obtain ⟨a0, a1, a2⟩ := fits_bound p4
    have i1 : x.i < 1 := by simpa using p5
    clear hq p1 p2 p3 p4 p5 hfit hsp
    rw [hf]
    rw [if_neg (by decide), if_neg (by decide), if_neg (by decide), if_neg (by decide), if_neg (by decide), if_neg (by decide)]
    unfold ferryref07_Encode.j0
    dsimp only
    try rw [hf]
    rw [if_neg (by decide)]
    rw [if_neg (by decide), if_neg (by decide), if_neg (by decide), if_neg (by decide)]
    rw [fix_op op ho, ref_s s0 s1, ref_t t0 t1, ref_d d0 d1, ref_a a0 a1, ref_sub hsub]
    simp only [W_or, Nat.zero_or, Nat.or_zero]
  have hq' := Bool.eq_false_iff.2 hq
  rw [hq', if_neg (by decide), if_neg (by decide)]
theorem enc_dt (k : Nat) (nm form : ByteArray) (x : Nums) (op sub : Nat) (ho : op < 64) (h1' : op ≠ 1) (hsub : sub < 2048) (hf : form.toList = [100, 116]) (hsp : ferryref07_special.f nm = some ((op : Int), ((sub % 64 : Nat) : Int), ((sub / 64 : Nat) : Int), form)) (h0 : 0 ≤ x.i) (h1 : x.i ≤ 4294967295) :
    ferryref07_Encode.f (k + 1) nm x.s x.t x.d x.a x.i = some (if fitIf nm.toList [100, 116] (fitsOf x.s false) (fitsOf x.t true) (fitsOf x.d true) (fitsOf x.a false) (decide (1 ≤ x.i)) x.d x.a = true then ((W op 0 (dg x.t) (dg x.d) (sub / 64) sub : Int), true) else (0, false)) := by
  have hfit : ferryref07_fit.f nm x.s x.t x.d x.a x.i (op : Int) ((sub % 64 : Nat) : Int) ((sub / 64 : Nat) : Int) form = some (fitIf nm.toList [100, 116] (fitsOf x.s false) (fitsOf x.t true) (fitsOf x.d true) (fitsOf x.a false) (decide (1 ≤ x.i)) x.d x.a) := by
    unfold ferryref07_fit.f
    rw [hf, show regsOf [100, 116] = some ([100, 116], (false, true, true, false), 0) from rfl]
    rfl
  unfold ferryref07_Encode.f
  rw [hsp, Option.bind_some]
  dsimp only
  rw [hfit, Option.bind_some]
  by_cases hq : fitIf nm.toList [100, 116] (fitsOf x.s false) (fitsOf x.t true) (fitsOf x.d true) (fitsOf x.a false) (decide (1 ≤ x.i)) x.d x.a = true
  · rw [hq, if_pos rfl, if_pos rfl]
    obtain ⟨p1, p2, p3, p4, p5⟩ := fit_parts hq
    obtain ⟨s0, s1, s2⟩ := fits_bound p1
    obtain ⟨t0, t1, t2⟩ := fits_bound p2
    obtain ⟨d0, d1, d2⟩ := fits_bound p3
    obtain ⟨a0, a1, a2⟩ := fits_bound p4
    have i1 : x.i < 1 := by simpa using p5
    clear hq p1 p2 p3 p4 p5 hfit hsp
    rw [hf]
    rw [if_neg (by decide), if_neg (by decide), if_neg (by decide), if_neg (by decide), if_neg (by decide), if_neg (by decide)]
    unfold ferryref07_Encode.j0
    dsimp only
    try rw [hf]
    rw [if_neg (by decide)]
    rw [if_neg (by decide), if_neg (by decide), if_neg (by decide), if_pos rfl]
    rw [fix_op op ho, ref_s s0 s1, ref_t t0 t1, ref_d d0 d1, ref_sa (show sub / 64 < 32 by omega), ref_sub (show sub % 64 < 64 by omega)]
    have z0 := s2 rfl
    have z1 := a2 rfl
    simp only [z0, z1, dg_zero, W_or, Nat.zero_or, Nat.or_zero]
    rw [W_mod]
  have hq' := Bool.eq_false_iff.2 hq
  rw [hq', if_neg (by decide), if_neg (by decide)]
theorem enc_td (k : Nat) (nm form : ByteArray) (x : Nums) (op sub : Nat) (ho : op < 64) (h1' : op ≠ 1) (hsub : sub < 64) (hf : form.toList = [116, 100]) (hsp : ferryref07_special.f nm = some ((op : Int), (sub : Int), 0, form)) (h0 : 0 ≤ x.i) (h1 : x.i ≤ 4294967295) :
    ferryref07_Encode.f (k + 1) nm x.s x.t x.d x.a x.i = some (if fitIf nm.toList [116, 100] (fitsOf x.s false) (fitsOf x.t true) (fitsOf x.d true) (fitsOf x.a false) (decide (1 ≤ x.i)) x.d x.a = true then ((W op 0 (dg x.t) (dg x.d) 0 sub : Int), true) else (0, false)) := by
  have hfit : ferryref07_fit.f nm x.s x.t x.d x.a x.i (op : Int) (sub : Int) 0 form = some (fitIf nm.toList [116, 100] (fitsOf x.s false) (fitsOf x.t true) (fitsOf x.d true) (fitsOf x.a false) (decide (1 ≤ x.i)) x.d x.a) := by
    unfold ferryref07_fit.f
    rw [hf, show regsOf [116, 100] = some ([116, 100], (false, true, true, false), 0) from rfl]
    rfl
  unfold ferryref07_Encode.f
  rw [hsp, Option.bind_some]
  dsimp only
  rw [hfit, Option.bind_some]
  by_cases hq : fitIf nm.toList [116, 100] (fitsOf x.s false) (fitsOf x.t true) (fitsOf x.d true) (fitsOf x.a false) (decide (1 ≤ x.i)) x.d x.a = true
  · rw [hq, if_pos rfl, if_pos rfl]
    obtain ⟨p1, p2, p3, p4, p5⟩ := fit_parts hq
    obtain ⟨s0, s1, s2⟩ := fits_bound p1
    obtain ⟨t0, t1, t2⟩ := fits_bound p2
    obtain ⟨d0, d1, d2⟩ := fits_bound p3
    obtain ⟨a0, a1, a2⟩ := fits_bound p4
    have i1 : x.i < 1 := by simpa using p5
    clear hq p1 p2 p3 p4 p5 hfit hsp
    rw [hf]
    rw [if_neg (by decide), if_neg (by decide), if_neg (by decide), if_neg (by decide), if_neg (by decide), if_neg (by decide)]
    unfold ferryref07_Encode.j0
    dsimp only
    try rw [hf]
    rw [if_neg (by decide)]
    rw [if_neg (by decide), if_neg (by decide), if_neg (by decide), if_neg (by decide)]
    rw [fix_op op ho, ref_s s0 s1, ref_t t0 t1, ref_d d0 d1, ref_a a0 a1, ref_sub hsub]
    have z0 := s2 rfl
    have z1 := a2 rfl
    simp only [z0, z1, dg_zero, W_or, Nat.zero_or, Nat.or_zero]
  have hq' := Bool.eq_false_iff.2 hq
  rw [hq', if_neg (by decide), if_neg (by decide)]
theorem enc_tm (k : Nat) (nm form : ByteArray) (x : Nums) (op sub : Nat) (ho : op < 64) (h1' : op ≠ 1) (hsub : sub = 0) (hf : form.toList = [116, 109]) (hsp : ferryref07_special.f nm = some ((op : Int), (sub : Int), 0, form)) (h0 : 0 ≤ x.i) (h1 : x.i ≤ 4294967295) :
    ferryref07_Encode.f (k + 1) nm x.s x.t x.d x.a x.i = some (if fitIf nm.toList [116, 109] (fitsOf x.s true) (fitsOf x.t true) (fitsOf x.d false) (fitsOf x.a false) (decide (65536 ≤ x.i)) x.d x.a = true then ((W op (dg x.s) (dg x.t) (x.i.toNat / 2048) (x.i.toNat / 64) x.i.toNat : Int), true) else (0, false)) := by
  have hfit : ferryref07_fit.f nm x.s x.t x.d x.a x.i (op : Int) (sub : Int) 0 form = some (fitIf nm.toList [116, 109] (fitsOf x.s true) (fitsOf x.t true) (fitsOf x.d false) (fitsOf x.a false) (decide (65536 ≤ x.i)) x.d x.a) := by
    unfold ferryref07_fit.f
    rw [hf, show regsOf [116, 109] = some ([116, 109], (true, true, false, false), 16) from rfl]
    rfl
  unfold ferryref07_Encode.f
  rw [hsp, Option.bind_some]
  dsimp only
  rw [hfit, Option.bind_some]
  by_cases hq : fitIf nm.toList [116, 109] (fitsOf x.s true) (fitsOf x.t true) (fitsOf x.d false) (fitsOf x.a false) (decide (65536 ≤ x.i)) x.d x.a = true
  · rw [hq, if_pos rfl, if_pos rfl]
    obtain ⟨p1, p2, p3, p4, p5⟩ := fit_parts hq
    obtain ⟨s0, s1, s2⟩ := fits_bound p1
    obtain ⟨t0, t1, t2⟩ := fits_bound p2
    obtain ⟨d0, d1, d2⟩ := fits_bound p3
    obtain ⟨a0, a1, a2⟩ := fits_bound p4
    have i1 : x.i < 65536 := by simpa using p5
    clear hq p1 p2 p3 p4 p5 hfit hsp
    rw [hf]
    rw [if_neg (by decide), if_neg (by decide), if_neg (by decide), if_neg (by decide), if_neg (by decide), if_neg (by decide)]
    unfold ferryref07_Encode.j0
    dsimp only
    try rw [hf]
    rw [if_pos (by decide)]
    have ei := ref_i16 h0 i1
    generalize x.i.toNat = m at ei ⊢
    rw [if_neg (show ¬ ((op : Int) = 1) by omega), fix_op op ho, ref_s s0 s1, ref_t t0 t1, ei]
    subst hsub
    have z0 := d2 rfl
    have z1 := a2 rfl
    simp only [z0, z1, dg_zero, W_or, Nat.zero_or, Nat.or_zero]
  have hq' := Bool.eq_false_iff.2 hq
  rw [hq', if_neg (by decide), if_neg (by decide)]
theorem enc_so1 (k : Nat) (nm form : ByteArray) (x : Nums) (sub : Nat) (hsub : sub < 32) (hf : form.toList = [115, 111]) (hsp : ferryref07_special.f nm = some (1, (sub : Int), 0, form)) (h0 : 0 ≤ x.i) (h1 : x.i ≤ 4294967295) :
    ferryref07_Encode.f (k + 1) nm x.s x.t x.d x.a x.i = some (if fitIf nm.toList [115, 111] (fitsOf x.s true) (fitsOf x.t false) (fitsOf x.d false) (fitsOf x.a false) (decide (65536 ≤ x.i)) x.d x.a = true then ((W 1 (dg x.s) sub (x.i.toNat / 2048) (x.i.toNat / 64) x.i.toNat : Int), true) else (0, false)) := by
  have hfit : ferryref07_fit.f nm x.s x.t x.d x.a x.i 1 (sub : Int) 0 form = some (fitIf nm.toList [115, 111] (fitsOf x.s true) (fitsOf x.t false) (fitsOf x.d false) (fitsOf x.a false) (decide (65536 ≤ x.i)) x.d x.a) := by
    unfold ferryref07_fit.f
    rw [hf, show regsOf [115, 111] = some ([115, 111], (true, false, false, false), 16) from rfl]
    rfl
  unfold ferryref07_Encode.f
  rw [hsp, Option.bind_some]
  dsimp only
  rw [hfit, Option.bind_some]
  by_cases hq : fitIf nm.toList [115, 111] (fitsOf x.s true) (fitsOf x.t false) (fitsOf x.d false) (fitsOf x.a false) (decide (65536 ≤ x.i)) x.d x.a = true
  · rw [hq, if_pos rfl, if_pos rfl]
    obtain ⟨p1, p2, p3, p4, p5⟩ := fit_parts hq
    obtain ⟨s0, s1, s2⟩ := fits_bound p1
    obtain ⟨t0, t1, t2⟩ := fits_bound p2
    obtain ⟨d0, d1, d2⟩ := fits_bound p3
    obtain ⟨a0, a1, a2⟩ := fits_bound p4
    have i1 : x.i < 65536 := by simpa using p5
    clear hq p1 p2 p3 p4 p5 hfit hsp
    rw [hf]
    rw [if_neg (by decide), if_neg (by decide), if_pos rfl]
    unfold ferryref07_Encode.j0
    dsimp only
    try rw [hf]
    rw [if_pos (by decide)]
    have ei := ref_i16 h0 i1
    generalize x.i.toNat = m at ei ⊢
    rw [if_pos rfl, ref_one, ref_s s0 s1, ref_two hsub, ei]
    have z0 := t2 rfl
    have z1 := d2 rfl
    have z2 := a2 rfl
    simp only [z0, z1, z2, dg_zero, W_or, Nat.zero_or, Nat.or_zero]
  have hq' := Bool.eq_false_iff.2 hq
  rw [hq', if_neg (by decide), if_neg (by decide)]
end Go.Proofs.YtnddjndgfaefaaaDoor.F
end
