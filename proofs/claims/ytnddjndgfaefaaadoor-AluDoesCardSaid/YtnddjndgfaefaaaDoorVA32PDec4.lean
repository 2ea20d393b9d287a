import Derived.Below
import Derived.Deep.Draws
import Derived.Deep.AppendLies
import Derived.Maps.AppendAt
import Derived.OwnWalk
import Derived.Laws.BytesArg
import Derived.Laws.MakeOwn
import Derived.Laws.OwnMore
import Derived.Deep.OwnRows
import Derived.Tactics
import Derived.Lib.ConvBytes
import Derived.Laws.Slices
import Derived.WalkKit
import Derived.KernelRfl
import Derived.RowKit3
import Derived.Deep.LoopGhost
import Derived.Deep.QuietTactic
import Derived.BigQuiet
import Derived.WideLaws
import Derived.Deep.DeepCutAuto
import Derived.Deep.CutBlock
import Derived.Deep.RegionHeld3
import Derived.Laws.Rows
import Derived.Lib.AppendStr
import Derived.ArgAppend
import Derived.Laws.IdiomCopy
import Derived.RowKit
import Derived.OrdersHeld
import Derived.Laws.BitsLemmas
import Derived.Laws.StructEq
import Derived.Shelf.Small.Bits
import Derived.Shelf.LaysM
import Derived.Shelf.Strings.Fields
import Derived.Shelf.Strings.Replace
import Derived.Shelf.Strings.SplitShaped
import Derived.Lib.LaidTab
import Derived.Shelf.Abstract
import Derived.RangeFuncRecord
import Derived.ProofKit
import Derived.Lib.Hide
import Derived.Maps.OwnOps
import Derived.OwnWalkIn
import Derived.WalkSmall
import Derived.Laws.ResultCell
import Derived.Shelf.RegionOpen
import Derived.Deep.RegionWith
import Derived.Test.YtnddjndgfaefaaaDoorVZF0
import Derived.Test.YtnddjndgfaefaaaDoorVA3HDecTake
import Derived.Test.YtnddjndgfaefaaaDoorVA8
import Derived.Test.YtnddjndgfaefaaaDoorVA10HDecForms
import Derived.Test.YtnddjndgfaefaaaDoorVA11HDecFind
import Derived.Test.YtnddjndgfaefaaaDoorVA14
import Derived.Test.YtnddjndgfaefaaaDoorVA21HDecSpecial
import Derived.Test.YtnddjndgfaefaaaDoorVA22HDecRef
import Derived.Test.YtnddjndgfaefaaaDoorVA24FFerryref07Encode
import Derived.Test.YtnddjndgfaefaaaDoorVA29PDec1
import Derived.Test.YtnddjndgfaefaaaDoorVA30PDec2
import Derived.Test.YtnddjndgfaefaaaDoorVA31PDec3
section
namespace Go.Proofs.YtnddjndgfaefaaaDoor.F
open Go.RowKit Go.Proofs.YtnddjndgfaefaaaDoorW.PrintWords Go.Proofs.YtnddjndgfaefaaaDoorW.PrintLast Go.Proofs.YtnddjndgfaefaaaDoorW.PrintMore
set_option linter.unusedVariables false
set_option linter.unusedSimpArgs false
theorem fit_sound (nm : ByteArray) (form : List UInt8) (n : Nums) (f1 f2 f3 f4 g : Bool) (hf : (form == []) = false) (hr : (form == [116, 100]) = (nm.toList == [114, 100, 104, 119, 114])) :
    fitIf nm.toList form f1 f2 f3 f4 g n.d n.a = true ↔ ((f1 = true ∧ f2 = true ∧ f3 = true ∧ f4 = true ∧ g = false) ∧ soundOf nm n = true) := by
  have hs : soundOf nm n = (!(form == [116, 100] && n.d != 29) && (nm.toList != [101, 120, 116] || decide (wrap64 (n.d + n.a) ≤ 31)) && (nm.toList != [105, 110, 115] || decide (n.a ≤ n.d))) := by
    unfold soundOf dec_sound.f
    rw [hr]
    by_cases h1 : nm.toList = [101, 120, 116]
    · rw [if_pos h1, h1]
      have e : (([101, 120, 116] : List UInt8) == [114, 100, 104, 119, 114]) = false := by decide
      have e2 : (([101, 120, 116] : List UInt8) != [101, 120, 116]) = false := by decide
      have e3 : (([101, 120, 116] : List UInt8) != [105, 110, 115]) = true := by decide
      rw [e, e2, e3]
      simp only [Option.getD_some, Bool.false_and, Bool.not_false, Bool.true_and, Bool.false_or, Bool.true_or, Bool.and_true]
      by_cases hh : wrap64 (n.d + n.a) < 32
      · rw [decide_eq_true hh, decide_eq_true (by omega)]
      rw [decide_eq_false hh, decide_eq_false (by omega)]
    rw [if_neg h1]
    have e2 : (nm.toList != [101, 120, 116]) = true := bne_iff_ne.2 h1
    rw [e2]
    by_cases h2 : nm.toList = [105, 110, 115]
    · rw [if_pos h2, h2]
      have e : (([105, 110, 115] : List UInt8) == [114, 100, 104, 119, 114]) = false := by decide
      have e3 : (([105, 110, 115] : List UInt8) != [105, 110, 115]) = false := by decide
      rw [e, e3]
      simp only [Option.getD_some, Bool.false_and, Bool.not_false, Bool.true_and, Bool.true_or, Bool.false_or, Bool.and_true]
    rw [if_neg h2]
    have e3 : (nm.toList != [105, 110, 115]) = true := bne_iff_ne.2 h2
    rw [e3]
    by_cases h3 : nm.toList = [114, 100, 104, 119, 114]
    · rw [if_pos h3, h3]
      have e : (([114, 100, 104, 119, 114] : List UInt8) == [114, 100, 104, 119, 114]) = true := by decide
      rw [e]
      simp only [Option.getD_some, Bool.true_and, Bool.true_or, Bool.and_true]
      by_cases hd : n.d = 29
      · rw [hd]
        rfl
      rw [beq_eq_false_iff_ne.2 hd, bne_iff_ne.2 hd]
      rfl
    rw [if_neg h3]
    have e : (nm.toList == [114, 100, 104, 119, 114]) = false := beq_eq_false_iff_ne.2 h3
    rw [e]
    rfl
  rw [hs]
  unfold fitIf
  rw [hf]
  generalize (form == [116, 100] && n.d != 29) = u
  generalize (nm.toList != [101, 120, 116] || decide (wrap64 (n.d + n.a) ≤ 31)) = v
  generalize (nm.toList != [105, 110, 115] || decide (n.a ≤ n.d)) = w
  cases f1 <;> cases f2 <;> cases f3 <;> cases f4 <;> cases g <;> cases u <;> cases v <;> cases w <;> simp
theorem row_dta (k : Nat) (nm form : ByteArray) (n : Nums) (op sub : Nat) (ho : op < 64) (h1' : op ≠ 1) (hs : sub < 64) (hf : form.toList = [100, 116, 97]) (hsp : ferryref07_special.f nm = some ((op : Int), (sub : Int), 0, form)) (hr : (form.toList == [116, 100]) = (nm.toList == [114, 100, 104, 119, 114])) (h0 : 0 ≤ n.i) (h1 : n.i ≤ 4294967295) :
    ∃ b : Bool, ferryref07_Encode.f (k + 1) nm n.s n.t n.d n.a n.i = some (if b = true then (layAll ([100, 116, 97], [100, 116, 97], 0, 16) (op : Int) (sub : Int) n, true) else (0, false)) ∧ (b = true ↔ (takeAll ([100, 116, 97], [100, 116, 97], 0, 16) (layAll ([100, 116, 97], [100, 116, 97], 0, 16) (op : Int) (sub : Int) n) = n ∧ soundOf nm n = true)) := by
  refine ⟨fitIf nm.toList [100, 116, 97] (fitsOf n.s false) (fitsOf n.t true) (fitsOf n.d true) (fitsOf n.a true) (decide (1 ≤ n.i)) n.d n.a, (enc_dta k nm form n op sub ho h1' hs hf hsp h0 h1).trans ?_, ?_⟩
  · rw [lay_dta op sub ho h1' (by omega) n]
    try simp only [Nat.or_zero]
  · rw [hf] at hr
    rw [tl_dta op sub ho h1' (by omega) n h0 h1]
    exact fit_sound nm [100, 116, 97] n _ _ _ _ _ (by decide) hr
theorem row_dts (k : Nat) (nm form : ByteArray) (n : Nums) (op sub : Nat) (ho : op < 64) (h1' : op ≠ 1) (hs : sub < 64) (hf : form.toList = [100, 116, 115]) (hsp : ferryref07_special.f nm = some ((op : Int), (sub : Int), 0, form)) (hr : (form.toList == [116, 100]) = (nm.toList == [114, 100, 104, 119, 114])) (h0 : 0 ≤ n.i) (h1 : n.i ≤ 4294967295) :
    ∃ b : Bool, ferryref07_Encode.f (k + 1) nm n.s n.t n.d n.a n.i = some (if b = true then (layAll ([100, 116, 115], [100, 116, 115], 0, 16) (op : Int) (sub : Int) n, true) else (0, false)) ∧ (b = true ↔ (takeAll ([100, 116, 115], [100, 116, 115], 0, 16) (layAll ([100, 116, 115], [100, 116, 115], 0, 16) (op : Int) (sub : Int) n) = n ∧ soundOf nm n = true)) := by
  refine ⟨fitIf nm.toList [100, 116, 115] (fitsOf n.s true) (fitsOf n.t true) (fitsOf n.d true) (fitsOf n.a false) (decide (1 ≤ n.i)) n.d n.a, (enc_dts k nm form n op sub ho h1' hs hf hsp h0 h1).trans ?_, ?_⟩
  · rw [lay_dts op sub ho h1' (by omega) n]
    try simp only [Nat.or_zero]
  · rw [hf] at hr
    rw [tl_dts op sub ho h1' (by omega) n h0 h1]
    exact fit_sound nm [100, 116, 115] n _ _ _ _ _ (by decide) hr
theorem row_s (k : Nat) (nm form : ByteArray) (n : Nums) (op sub : Nat) (ho : op < 64) (h1' : op ≠ 1) (hs : sub < 64) (hf : form.toList = [115]) (hsp : ferryref07_special.f nm = some ((op : Int), (sub : Int), 0, form)) (hr : (form.toList == [116, 100]) = (nm.toList == [114, 100, 104, 119, 114])) (h0 : 0 ≤ n.i) (h1 : n.i ≤ 4294967295) :
    ∃ b : Bool, ferryref07_Encode.f (k + 1) nm n.s n.t n.d n.a n.i = some (if b = true then (layAll ([115], [115], 0, 16) (op : Int) (sub : Int) n, true) else (0, false)) ∧ (b = true ↔ (takeAll ([115], [115], 0, 16) (layAll ([115], [115], 0, 16) (op : Int) (sub : Int) n) = n ∧ soundOf nm n = true)) := by
  refine ⟨fitIf nm.toList [115] (fitsOf n.s true) (fitsOf n.t false) (fitsOf n.d false) (fitsOf n.a false) (decide (1 ≤ n.i)) n.d n.a, (enc_s k nm form n op sub ho h1' hs hf hsp h0 h1).trans ?_, ?_⟩
  · rw [lay_s op sub ho h1' (by omega) n]
    try simp only [Nat.or_zero]
  · rw [hf] at hr
    rw [tl_s op sub ho h1' (by omega) n h0 h1]
    exact fit_sound nm [115] n _ _ _ _ _ (by decide) hr
theorem row_ds (k : Nat) (nm form : ByteArray) (n : Nums) (op sub : Nat) (ho : op < 64) (h1' : op ≠ 1) (hs : sub < 64) (hf : form.toList = [100, 115]) (hsp : ferryref07_special.f nm = some ((op : Int), (sub : Int), 0, form)) (hr : (form.toList == [116, 100]) = (nm.toList == [114, 100, 104, 119, 114])) (h0 : 0 ≤ n.i) (h1 : n.i ≤ 4294967295) :
    ∃ b : Bool, ferryref07_Encode.f (k + 1) nm n.s n.t n.d n.a n.i = some (if b = true then (layAll ([100, 115], [100, 115], 0, 16) (op : Int) (sub : Int) n, true) else (0, false)) ∧ (b = true ↔ (takeAll ([100, 115], [100, 115], 0, 16) (layAll ([100, 115], [100, 115], 0, 16) (op : Int) (sub : Int) n) = n ∧ soundOf nm n = true)) := by
  refine ⟨fitIf nm.toList [100, 115] (fitsOf n.s true) (fitsOf n.t false) (fitsOf n.d true) (fitsOf n.a false) (decide (1 ≤ n.i)) n.d n.a, (enc_ds k nm form n op sub ho h1' hs hf hsp h0 h1).trans ?_, ?_⟩
  · rw [lay_ds op sub ho h1' (by omega) n]
    try simp only [Nat.or_zero]
  · rw [hf] at hr
    rw [tl_ds op sub ho h1' (by omega) n h0 h1]
    exact fit_sound nm [100, 115] n _ _ _ _ _ (by decide) hr
theorem row_dst (k : Nat) (nm form : ByteArray) (n : Nums) (op sub : Nat) (ho : op < 64) (h1' : op ≠ 1) (hs : sub < 64) (hf : form.toList = [100, 115, 116]) (hsp : ferryref07_special.f nm = some ((op : Int), (sub : Int), 0, form)) (hr : (form.toList == [116, 100]) = (nm.toList == [114, 100, 104, 119, 114])) (h0 : 0 ≤ n.i) (h1 : n.i ≤ 4294967295) :
    ∃ b : Bool, ferryref07_Encode.f (k + 1) nm n.s n.t n.d n.a n.i = some (if b = true then (layAll ([100, 115, 116], [100, 115, 116], 0, 16) (op : Int) (sub : Int) n, true) else (0, false)) ∧ (b = true ↔ (takeAll ([100, 115, 116], [100, 115, 116], 0, 16) (layAll ([100, 115, 116], [100, 115, 116], 0, 16) (op : Int) (sub : Int) n) = n ∧ soundOf nm n = true)) := by
  refine ⟨fitIf nm.toList [100, 115, 116] (fitsOf n.s true) (fitsOf n.t true) (fitsOf n.d true) (fitsOf n.a false) (decide (1 ≤ n.i)) n.d n.a, (enc_dst k nm form n op sub ho h1' hs hf hsp h0 h1).trans ?_, ?_⟩
  · rw [lay_dst op sub ho h1' (by omega) n]
    try simp only [Nat.or_zero]
  · rw [hf] at hr
    rw [tl_dst op sub ho h1' (by omega) n h0 h1]
    exact fit_sound nm [100, 115, 116] n _ _ _ _ _ (by decide) hr
theorem row_c (k : Nat) (nm form : ByteArray) (n : Nums) (op sub : Nat) (ho : op < 64) (h1' : op ≠ 1) (hs : sub < 64) (hf : form.toList = [99]) (hsp : ferryref07_special.f nm = some ((op : Int), (sub : Int), 0, form)) (hr : (form.toList == [116, 100]) = (nm.toList == [114, 100, 104, 119, 114])) (h0 : 0 ≤ n.i) (h1 : n.i ≤ 4294967295) :
    ∃ b : Bool, ferryref07_Encode.f (k + 1) nm n.s n.t n.d n.a n.i = some (if b = true then (layAll ([99], [105], 6, 20) (op : Int) (sub : Int) n, true) else (0, false)) ∧ (b = true ↔ (takeAll ([99], [105], 6, 20) (layAll ([99], [105], 6, 20) (op : Int) (sub : Int) n) = n ∧ soundOf nm n = true)) := by
  refine ⟨fitIf nm.toList [99] (fitsOf n.s false) (fitsOf n.t false) (fitsOf n.d false) (fitsOf n.a false) (decide (1048576 ≤ n.i)) n.d n.a, (enc_c k nm form n op sub ho h1' hs hf hsp h0 h1).trans ?_, ?_⟩
  · rw [lay_c op sub ho h1' (by omega) n h0 h1]
    try simp only [Nat.or_zero]
  · rw [hf] at hr
    rw [tl_c op sub ho h1' (by omega) n h0 h1]
    exact fit_sound nm [99] n _ _ _ _ _ (by decide) hr
theorem row_d (k : Nat) (nm form : ByteArray) (n : Nums) (op sub : Nat) (ho : op < 64) (h1' : op ≠ 1) (hs : sub < 64) (hf : form.toList = [100]) (hsp : ferryref07_special.f nm = some ((op : Int), (sub : Int), 0, form)) (hr : (form.toList == [116, 100]) = (nm.toList == [114, 100, 104, 119, 114])) (h0 : 0 ≤ n.i) (h1 : n.i ≤ 4294967295) :
    ∃ b : Bool, ferryref07_Encode.f (k + 1) nm n.s n.t n.d n.a n.i = some (if b = true then (layAll ([100], [100], 0, 16) (op : Int) (sub : Int) n, true) else (0, false)) ∧ (b = true ↔ (takeAll ([100], [100], 0, 16) (layAll ([100], [100], 0, 16) (op : Int) (sub : Int) n) = n ∧ soundOf nm n = true)) := by
  refine ⟨fitIf nm.toList [100] (fitsOf n.s false) (fitsOf n.t false) (fitsOf n.d true) (fitsOf n.a false) (decide (1 ≤ n.i)) n.d n.a, (enc_d k nm form n op sub ho h1' hs hf hsp h0 h1).trans ?_, ?_⟩
  · rw [lay_d op sub ho h1' (by omega) n]
    try simp only [Nat.or_zero]
  · rw [hf] at hr
    rw [tl_d op sub ho h1' (by omega) n h0 h1]
    exact fit_sound nm [100] n _ _ _ _ _ (by decide) hr
theorem row_st (k : Nat) (nm form : ByteArray) (n : Nums) (op sub : Nat) (ho : op < 64) (h1' : op ≠ 1) (hs : sub < 64) (hf : form.toList = [115, 116]) (hsp : ferryref07_special.f nm = some ((op : Int), (sub : Int), 0, form)) (hr : (form.toList == [116, 100]) = (nm.toList == [114, 100, 104, 119, 114])) (h0 : 0 ≤ n.i) (h1 : n.i ≤ 4294967295) :
    ∃ b : Bool, ferryref07_Encode.f (k + 1) nm n.s n.t n.d n.a n.i = some (if b = true then (layAll ([115, 116], [115, 116], 0, 16) (op : Int) (sub : Int) n, true) else (0, false)) ∧ (b = true ↔ (takeAll ([115, 116], [115, 116], 0, 16) (layAll ([115, 116], [115, 116], 0, 16) (op : Int) (sub : Int) n) = n ∧ soundOf nm n = true)) := by
  refine ⟨fitIf nm.toList [115, 116] (fitsOf n.s true) (fitsOf n.t true) (fitsOf n.d false) (fitsOf n.a false) (decide (1 ≤ n.i)) n.d n.a, (enc_st k nm form n op sub ho h1' hs hf hsp h0 h1).trans ?_, ?_⟩
  · rw [lay_st op sub ho h1' (by omega) n]
    try simp only [Nat.or_zero]
  · rw [hf] at hr
    rw [tl_st op sub ho h1' (by omega) n h0 h1]
    exact fit_sound nm [115, 116] n _ _ _ _ _ (by decide) hr
theorem row_dtr (k : Nat) (nm form : ByteArray) (n : Nums) (op sub : Nat) (ho : op < 64) (h1' : op ≠ 1) (hs : sub < 64) (hf : form.toList = [100, 116, 114]) (hsp : ferryref07_special.f nm = some ((op : Int), (sub : Int), 0, form)) (hr : (form.toList == [116, 100]) = (nm.toList == [114, 100, 104, 119, 114])) (h0 : 0 ≤ n.i) (h1 : n.i ≤ 4294967295) :
    ∃ b : Bool, ferryref07_Encode.f (k + 1) nm n.s n.t n.d n.a n.i = some (if b = true then (layAll ([100, 116, 114], [100, 116, 97], 0, 16) (op : Int) (sub : Int) n, true) else (0, false)) ∧ (b = true ↔ (takeAll ([100, 116, 114], [100, 116, 97], 0, 16) (layAll ([100, 116, 114], [100, 116, 97], 0, 16) (op : Int) (sub : Int) n) = n ∧ soundOf nm n = true)) := by
  refine ⟨fitIf nm.toList [100, 116, 114] (fitsOf n.s false) (fitsOf n.t true) (fitsOf n.d true) (fitsOf n.a true) (decide (1 ≤ n.i)) n.d n.a, (enc_dtr k nm form n op sub ho h1' hs hf hsp h0 h1).trans ?_, ?_⟩
  · rw [lay_dtr op sub ho h1' (by omega) n]
    try simp only [Nat.or_zero]
  · rw [hf] at hr
    rw [tl_dtr op sub ho h1' (by omega) n h0 h1]
    exact fit_sound nm [100, 116, 114] n _ _ _ _ _ (by decide) hr
theorem row_dtv (k : Nat) (nm form : ByteArray) (n : Nums) (op sub : Nat) (ho : op < 64) (h1' : op ≠ 1) (hs : sub < 64) (hf : form.toList = [100, 116, 118]) (hsp : ferryref07_special.f nm = some ((op : Int), (sub : Int), 0, form)) (hr : (form.toList == [116, 100]) = (nm.toList == [114, 100, 104, 119, 114])) (h0 : 0 ≤ n.i) (h1 : n.i ≤ 4294967295) :
    ∃ b : Bool, ferryref07_Encode.f (k + 1) nm n.s n.t n.d n.a n.i = some (if b = true then (layAll ([100, 116, 118], [100, 116, 115], 0, 16) (op : Int) (sub : Int) n, true) else (0, false)) ∧ (b = true ↔ (takeAll ([100, 116, 118], [100, 116, 115], 0, 16) (layAll ([100, 116, 118], [100, 116, 115], 0, 16) (op : Int) (sub : Int) n) = n ∧ soundOf nm n = true)) := by
  refine ⟨fitIf nm.toList [100, 116, 118] (fitsOf n.s true) (fitsOf n.t true) (fitsOf n.d true) (fitsOf n.a false) (decide (1 ≤ n.i)) n.d n.a, (enc_dtv k nm form n op sub ho h1' hs hf hsp h0 h1).trans ?_, ?_⟩
  · rw [lay_dtv op sub ho h1' (by omega) n]
    try simp only [Nat.or_zero]
  · rw [hf] at hr
    rw [tl_dtv op sub ho h1' (by omega) n h0 h1]
    exact fit_sound nm [100, 116, 118] n _ _ _ _ _ (by decide) hr
theorem row_so (k : Nat) (nm form : ByteArray) (n : Nums) (op sub : Nat) (ho : op < 64) (h1' : op ≠ 1) (hs : sub = 0) (hf : form.toList = [115, 111]) (hsp : ferryref07_special.f nm = some ((op : Int), (sub : Int), 0, form)) (hr : (form.toList == [116, 100]) = (nm.toList == [114, 100, 104, 119, 114])) (h0 : 0 ≤ n.i) (h1 : n.i ≤ 4294967295) :
    ∃ b : Bool, ferryref07_Encode.f (k + 1) nm n.s n.t n.d n.a n.i = some (if b = true then (layAll ([115, 111], [115, 105], 0, 16) (op : Int) (sub : Int) n, true) else (0, false)) ∧ (b = true ↔ (takeAll ([115, 111], [115, 105], 0, 16) (layAll ([115, 111], [115, 105], 0, 16) (op : Int) (sub : Int) n) = n ∧ soundOf nm n = true)) := by
  refine ⟨fitIf nm.toList [115, 111] (fitsOf n.s true) (fitsOf n.t false) (fitsOf n.d false) (fitsOf n.a false) (decide (65536 ≤ n.i)) n.d n.a, (enc_so k nm form n op sub ho h1' hs hf hsp h0 h1).trans ?_, ?_⟩
  · rw [lay_so op sub ho h1' (by omega) n h0 h1]
    subst hs
    try simp only [Nat.or_zero]
  · rw [hf] at hr
    rw [tl_so op sub ho h1' hs n h0 h1]
    exact fit_sound nm [115, 111] n _ _ _ _ _ (by decide) hr
theorem row_j (k : Nat) (nm form : ByteArray) (n : Nums) (op sub : Nat) (ho : op < 64) (h1' : op ≠ 1) (hs : sub = 0) (hf : form.toList = [106]) (hsp : ferryref07_special.f nm = some ((op : Int), (sub : Int), 0, form)) (hr : (form.toList == [116, 100]) = (nm.toList == [114, 100, 104, 119, 114])) (h0 : 0 ≤ n.i) (h1 : n.i ≤ 4294967295) :
    ∃ b : Bool, ferryref07_Encode.f (k + 1) nm n.s n.t n.d n.a n.i = some (if b = true then (layAll ([106], [105], 0, 26) (op : Int) (sub : Int) n, true) else (0, false)) ∧ (b = true ↔ (takeAll ([106], [105], 0, 26) (layAll ([106], [105], 0, 26) (op : Int) (sub : Int) n) = n ∧ soundOf nm n = true)) := by
  refine ⟨fitIf nm.toList [106] (fitsOf n.s false) (fitsOf n.t false) (fitsOf n.d false) (fitsOf n.a false) (decide (67108864 ≤ n.i)) n.d n.a, (enc_j k nm form n op sub ho h1' hs hf hsp h0 h1).trans ?_, ?_⟩
  · rw [lay_j op sub ho h1' (by omega) n h0 h1]
    subst hs
    try simp only [Nat.or_zero]
  · rw [hf] at hr
    rw [tl_j op sub ho h1' hs n h0 h1]
    exact fit_sound nm [106] n _ _ _ _ _ (by decide) hr
theorem row_sto (k : Nat) (nm form : ByteArray) (n : Nums) (op sub : Nat) (ho : op < 64) (h1' : op ≠ 1) (hs : sub = 0) (hf : form.toList = [115, 116, 111]) (hsp : ferryref07_special.f nm = some ((op : Int), (sub : Int), 0, form)) (hr : (form.toList == [116, 100]) = (nm.toList == [114, 100, 104, 119, 114])) (h0 : 0 ≤ n.i) (h1 : n.i ≤ 4294967295) :
    ∃ b : Bool, ferryref07_Encode.f (k + 1) nm n.s n.t n.d n.a n.i = some (if b = true then (layAll ([115, 116, 111], [115, 116, 105], 0, 16) (op : Int) (sub : Int) n, true) else (0, false)) ∧ (b = true ↔ (takeAll ([115, 116, 111], [115, 116, 105], 0, 16) (layAll ([115, 116, 111], [115, 116, 105], 0, 16) (op : Int) (sub : Int) n) = n ∧ soundOf nm n = true)) := by
  refine ⟨fitIf nm.toList [115, 116, 111] (fitsOf n.s true) (fitsOf n.t true) (fitsOf n.d false) (fitsOf n.a false) (decide (65536 ≤ n.i)) n.d n.a, (enc_sto k nm form n op sub ho h1' hs hf hsp h0 h1).trans ?_, ?_⟩
  · rw [lay_sto op sub ho h1' (by omega) n h0 h1]
    subst hs
    try simp only [Nat.or_zero]
  · rw [hf] at hr
    rw [tl_sto op sub ho h1' hs n h0 h1]
    exact fit_sound nm [115, 116, 111] n _ _ _ _ _ (by decide) hr
theorem row_tsi (k : Nat) (nm form : ByteArray) (n : Nums) (op sub : Nat) (ho : op < 64) (h1' : op ≠ 1) (hs : sub = 0) (hf : form.toList = [116, 115, 105]) (hsp : ferryref07_special.f nm = some ((op : Int), (sub : Int), 0, form)) (hr : (form.toList == [116, 100]) = (nm.toList == [114, 100, 104, 119, 114])) (h0 : 0 ≤ n.i) (h1 : n.i ≤ 4294967295) :
    ∃ b : Bool, ferryref07_Encode.f (k + 1) nm n.s n.t n.d n.a n.i = some (if b = true then (layAll ([116, 115, 105], [116, 115, 105], 0, 16) (op : Int) (sub : Int) n, true) else (0, false)) ∧ (b = true ↔ (takeAll ([116, 115, 105], [116, 115, 105], 0, 16) (layAll ([116, 115, 105], [116, 115, 105], 0, 16) (op : Int) (sub : Int) n) = n ∧ soundOf nm n = true)) := by
  refine ⟨fitIf nm.toList [116, 115, 105] (fitsOf n.s true) (fitsOf n.t true) (fitsOf n.d false) (fitsOf n.a false) (decide (65536 ≤ n.i)) n.d n.a, (enc_tsi k nm form n op sub ho h1' hs hf hsp h0 h1).trans ?_, ?_⟩
  · rw [lay_tsi op sub ho h1' (by omega) n h0 h1]
    subst hs
    try simp only [Nat.or_zero]
  · rw [hf] at hr
    rw [tl_tsi op sub ho h1' hs n h0 h1]
    exact fit_sound nm [116, 115, 105] n _ _ _ _ _ (by decide) hr
theorem row_ti (k : Nat) (nm form : ByteArray) (n : Nums) (op sub : Nat) (ho : op < 64) (h1' : op ≠ 1) (hs : sub = 0) (hf : form.toList = [116, 105]) (hsp : ferryref07_special.f nm = some ((op : Int), (sub : Int), 0, form)) (hr : (form.toList == [116, 100]) = (nm.toList == [114, 100, 104, 119, 114])) (h0 : 0 ≤ n.i) (h1 : n.i ≤ 4294967295) :
    ∃ b : Bool, ferryref07_Encode.f (k + 1) nm n.s n.t n.d n.a n.i = some (if b = true then (layAll ([116, 105], [116, 105], 0, 16) (op : Int) (sub : Int) n, true) else (0, false)) ∧ (b = true ↔ (takeAll ([116, 105], [116, 105], 0, 16) (layAll ([116, 105], [116, 105], 0, 16) (op : Int) (sub : Int) n) = n ∧ soundOf nm n = true)) := by
  refine ⟨fitIf nm.toList [116, 105] (fitsOf n.s false) (fitsOf n.t true) (fitsOf n.d false) (fitsOf n.a false) (decide (65536 ≤ n.i)) n.d n.a, (enc_ti k nm form n op sub ho h1' hs hf hsp h0 h1).trans ?_, ?_⟩
  · rw [lay_ti op sub ho h1' (by omega) n h0 h1]
    subst hs
    try simp only [Nat.or_zero]
  · rw [hf] at hr
    rw [tl_ti op sub ho h1' hs n h0 h1]
    exact fit_sound nm [116, 105] n _ _ _ _ _ (by decide) hr
theorem row_dsd (k : Nat) (nm form : ByteArray) (n : Nums) (op sub : Nat) (ho : op < 64) (h1' : op ≠ 1) (hs : sub < 64) (hf : form.toList = [100, 115, 100]) (hsp : ferryref07_special.f nm = some ((op : Int), (sub : Int), 0, form)) (hr : (form.toList == [116, 100]) = (nm.toList == [114, 100, 104, 119, 114])) (h0 : 0 ≤ n.i) (h1 : n.i ≤ 4294967295) :
    ∃ b : Bool, ferryref07_Encode.f (k + 1) nm n.s n.t n.d n.a n.i = some (if b = true then (layAll ([100, 115, 100], [100, 115], 0, 16) (op : Int) (sub : Int) n, true) else (0, false)) ∧ (b = true ↔ (takeAll ([100, 115, 100], [100, 115], 0, 16) (layAll ([100, 115, 100], [100, 115], 0, 16) (op : Int) (sub : Int) n) = n ∧ soundOf nm n = true)) := by
  refine ⟨fitIf nm.toList [100, 115, 100] (fitsOf n.s true) (fitsOf n.t false) (fitsOf n.d true) (fitsOf n.a false) (decide (1 ≤ n.i)) n.d n.a, (enc_dsd k nm form n op sub ho h1' hs hf hsp h0 h1).trans ?_, ?_⟩
  · rw [lay_dsd op sub ho h1' (by omega) n]
    try simp only [Nat.or_zero]
  · rw [hf] at hr
    rw [tl_dsd op sub ho h1' (by omega) n h0 h1]
    exact fit_sound nm [100, 115, 100] n _ _ _ _ _ (by decide) hr
theorem row_tsx (k : Nat) (nm form : ByteArray) (n : Nums) (op sub : Nat) (ho : op < 64) (h1' : op ≠ 1) (hs : sub < 64) (hf : form.toList = [116, 115, 120]) (hsp : ferryref07_special.f nm = some ((op : Int), (sub : Int), 0, form)) (hr : (form.toList == [116, 100]) = (nm.toList == [114, 100, 104, 119, 114])) (h0 : 0 ≤ n.i) (h1 : n.i ≤ 4294967295) :
    ∃ b : Bool, ferryref07_Encode.f (k + 1) nm n.s n.t n.d n.a n.i = some (if b = true then (layAll ([116, 115, 120], [116, 115, 100, 97], 0, 16) (op : Int) (sub : Int) n, true) else (0, false)) ∧ (b = true ↔ (takeAll ([116, 115, 120], [116, 115, 100, 97], 0, 16) (layAll ([116, 115, 120], [116, 115, 100, 97], 0, 16) (op : Int) (sub : Int) n) = n ∧ soundOf nm n = true)) := by
  refine ⟨fitIf nm.toList [116, 115, 120] (fitsOf n.s true) (fitsOf n.t true) (fitsOf n.d true) (fitsOf n.a true) (decide (1 ≤ n.i)) n.d n.a, (enc_tsx k nm form n op sub ho h1' hs hf hsp h0 h1).trans ?_, ?_⟩
  · rw [lay_tsx op sub ho h1' (by omega) n]
    try simp only [Nat.or_zero]
  · rw [hf] at hr
    rw [tl_tsx op sub ho h1' (by omega) n h0 h1]
    exact fit_sound nm [116, 115, 120] n _ _ _ _ _ (by decide) hr
theorem row_dt (k : Nat) (nm form : ByteArray) (n : Nums) (op sub : Nat) (ho : op < 64) (h1' : op ≠ 1) (hs : sub < 2048) (hf : form.toList = [100, 116]) (hsp : ferryref07_special.f nm = some ((op : Int), ((sub % 64 : Nat) : Int), ((sub / 64 : Nat) : Int), form)) (hr : (form.toList == [116, 100]) = (nm.toList == [114, 100, 104, 119, 114])) (h0 : 0 ≤ n.i) (h1 : n.i ≤ 4294967295) :
    ∃ b : Bool, ferryref07_Encode.f (k + 1) nm n.s n.t n.d n.a n.i = some (if b = true then (layAll ([100, 116], [100, 116], 0, 16) (op : Int) (sub : Int) n, true) else (0, false)) ∧ (b = true ↔ (takeAll ([100, 116], [100, 116], 0, 16) (layAll ([100, 116], [100, 116], 0, 16) (op : Int) (sub : Int) n) = n ∧ soundOf nm n = true)) := by
  refine ⟨fitIf nm.toList [100, 116] (fitsOf n.s false) (fitsOf n.t true) (fitsOf n.d true) (fitsOf n.a false) (decide (1 ≤ n.i)) n.d n.a, (enc_dt k nm form n op sub ho h1' hs hf hsp h0 h1).trans ?_, ?_⟩
  · rw [lay_dt op sub ho h1' hs n]
    try simp only [Nat.or_zero]
  · rw [hf] at hr
    rw [tl_dt op sub ho h1' hs n h0 h1]
    exact fit_sound nm [100, 116] n _ _ _ _ _ (by decide) hr
theorem row_td (k : Nat) (nm form : ByteArray) (n : Nums) (op sub : Nat) (ho : op < 64) (h1' : op ≠ 1) (hs : sub < 64) (hf : form.toList = [116, 100]) (hsp : ferryref07_special.f nm = some ((op : Int), (sub : Int), 0, form)) (hr : (form.toList == [116, 100]) = (nm.toList == [114, 100, 104, 119, 114])) (h0 : 0 ≤ n.i) (h1 : n.i ≤ 4294967295) :
    ∃ b : Bool, ferryref07_Encode.f (k + 1) nm n.s n.t n.d n.a n.i = some (if b = true then (layAll ([116, 100], [116, 100], 0, 16) (op : Int) (sub : Int) n, true) else (0, false)) ∧ (b = true ↔ (takeAll ([116, 100], [116, 100], 0, 16) (layAll ([116, 100], [116, 100], 0, 16) (op : Int) (sub : Int) n) = n ∧ soundOf nm n = true)) := by
  refine ⟨fitIf nm.toList [116, 100] (fitsOf n.s false) (fitsOf n.t true) (fitsOf n.d true) (fitsOf n.a false) (decide (1 ≤ n.i)) n.d n.a, (enc_td k nm form n op sub ho h1' hs hf hsp h0 h1).trans ?_, ?_⟩
  · rw [lay_td op sub ho h1' (by omega) n]
    try simp only [Nat.or_zero]
  · rw [hf] at hr
    rw [tl_td op sub ho h1' (by omega) n h0 h1]
    exact fit_sound nm [116, 100] n _ _ _ _ _ (by decide) hr
theorem row_tm (k : Nat) (nm form : ByteArray) (n : Nums) (op sub : Nat) (ho : op < 64) (h1' : op ≠ 1) (hs : sub = 0) (hf : form.toList = [116, 109]) (hsp : ferryref07_special.f nm = some ((op : Int), (sub : Int), 0, form)) (hr : (form.toList == [116, 100]) = (nm.toList == [114, 100, 104, 119, 114])) (h0 : 0 ≤ n.i) (h1 : n.i ≤ 4294967295) :
    ∃ b : Bool, ferryref07_Encode.f (k + 1) nm n.s n.t n.d n.a n.i = some (if b = true then (layAll ([116, 109], [116, 115, 105], 0, 16) (op : Int) (sub : Int) n, true) else (0, false)) ∧ (b = true ↔ (takeAll ([116, 109], [116, 115, 105], 0, 16) (layAll ([116, 109], [116, 115, 105], 0, 16) (op : Int) (sub : Int) n) = n ∧ soundOf nm n = true)) := by
  refine ⟨fitIf nm.toList [116, 109] (fitsOf n.s true) (fitsOf n.t true) (fitsOf n.d false) (fitsOf n.a false) (decide (65536 ≤ n.i)) n.d n.a, (enc_tm k nm form n op sub ho h1' hs hf hsp h0 h1).trans ?_, ?_⟩
  · rw [lay_tm op sub ho h1' (by omega) n h0 h1]
    subst hs
    try simp only [Nat.or_zero]
  · rw [hf] at hr
    rw [tl_tm op sub ho h1' hs n h0 h1]
    exact fit_sound nm [116, 109] n _ _ _ _ _ (by decide) hr
theorem row_so1 (k : Nat) (nm form : ByteArray) (n : Nums) (sub : Nat) (hs : sub < 32) (hf : form.toList = [115, 111]) (hsp : ferryref07_special.f nm = some (1, (sub : Int), 0, form)) (hr : (form.toList == [116, 100]) = (nm.toList == [114, 100, 104, 119, 114])) (h0 : 0 ≤ n.i) (h1 : n.i ≤ 4294967295) :
    ∃ b : Bool, ferryref07_Encode.f (k + 1) nm n.s n.t n.d n.a n.i = some (if b = true then (layAll ([115, 111], [115, 105], 0, 16) 1 (sub : Int) n, true) else (0, false)) ∧ (b = true ↔ (takeAll ([115, 111], [115, 105], 0, 16) (layAll ([115, 111], [115, 105], 0, 16) 1 (sub : Int) n) = n ∧ soundOf nm n = true)) := by
  refine ⟨fitIf nm.toList [115, 111] (fitsOf n.s true) (fitsOf n.t false) (fitsOf n.d false) (fitsOf n.a false) (decide (65536 ≤ n.i)) n.d n.a, (enc_so1 k nm form n sub hs hf hsp h0 h1).trans ?_, ?_⟩
  · rw [lay_one sub hs n h0 h1]
    try simp only [Nat.or_zero]
  · rw [hf] at hr
    rw [tl_so1 sub hs n h0 h1]
    exact fit_sound nm [115, 111] n _ _ _ _ _ (by decide) hr
def subR (x : S51) : Int := if x.f3.toList = [100, 116] then x.f2 % 64 else x.f2
def saR (x : S51) : Int := if x.f3.toList = [100, 116] then x.f2 / 64 else 0
def rowKind (x : S51) : Bool := if x.f1 = 1 then x.f3.toList == [115, 111] && decide (x.f2 < 32) else if x.f3.toList ∈ [[115, 111], [106], [115, 116, 111], [116, 115, 105], [116, 105], [116, 109]] then x.f2 == 0 else if x.f3.toList = [100, 116] then decide (x.f2 < 2048) else decide (x.f2 < 64)
def rowFits (x : S51) : Bool := decide (ferryref07_special.f x.f0 = some (x.f1, subR x, saR x, x.f3)) && decide (0 ≤ x.f1) && decide (x.f1 < 64) && decide (0 ≤ x.f2) && rowKind x && ((x.f3.toList == [116, 100]) == (x.f0.toList == [114, 100, 104, 119, 114]))
theorem rows_fit : decRows.all rowFits = true := by decide +kernel
theorem row_kind (x : S51) (hx : x ∈ decRows) : ferryref07_special.f x.f0 = some (x.f1, subR x, saR x, x.f3) ∧ 0 ≤ x.f1 ∧ x.f1 < 64 ∧ 0 ≤ x.f2 ∧ rowKind x = true ∧ (x.f3.toList == [116, 100]) = (x.f0.toList == [114, 100, 104, 119, 114]) := by
  have h := List.all_eq_true.1 rows_fit x hx
  unfold rowFits at h
  simp only [Bool.and_eq_true, decide_eq_true_eq] at h
  exact ⟨h.1.1.1.1.1, h.1.1.1.1.2, h.1.1.1.2, h.1.1.2, h.1.2, by simpa using h.2⟩
theorem info_form (x : S51) (hx : x ∈ decRows) : infoAt x ∈ formTable ∧ (infoAt x).1 = x.f3.toList := by
  have h := info_at x hx
  exact ⟨List.mem_of_find?_eq_some h, by simpa using List.find?_some h⟩
set_option maxHeartbeats 2000000 in
theorem enc_row (k : Nat) (x : S51) (hx : x ∈ decRows) (n : Nums) (h0 : 0 ≤ n.i) (h1 : n.i ≤ 4294967295) :
    ∃ b : Bool, ferryref07_Encode.f (k + 1) x.f0 n.s n.t n.d n.a n.i = some (if b = true then (layAll (infoAt x) x.f1 x.f2 n, true) else (0, false)) ∧ (b = true ↔ (takeAll (infoAt x) (layAll (infoAt x) x.f1 x.f2 n) = n ∧ soundOf x.f0 n = true)) := by
  obtain ⟨hm, he⟩ := info_form x hx
  obtain ⟨hsp, o0, o1, s0, hk, hr⟩ := row_kind x hx
  generalize infoAt x = q at hm he ⊢
  obtain ⟨nm, op, sub, form⟩ := x
  dsimp only at *
  obtain ⟨op, rfl⟩ := Int.eq_ofNat_of_zero_le o0
  obtain ⟨sub, rfl⟩ := Int.eq_ofNat_of_zero_le s0
  have ho : op < 64 := by omega
  clear hx o0 s0 o1
  unfold rowKind at hk
  unfold subR saR at hsp
  dsimp only at hk hsp
  simp only [formTable, List.mem_cons, List.not_mem_nil, or_false] at hm
  rcases hm with rfl | rfl | rfl | rfl | rfl | rfl | rfl | rfl | rfl | rfl | rfl | rfl | rfl | rfl | rfl | rfl | rfl | rfl | rfl | rfl
  · have hf : form.toList = [100, 116, 97] := he.symm
    clear he
    rw [hf] at hk
    rw [hf, if_neg (by decide), if_neg (by decide)] at hsp
    have h1' : op ≠ 1 := fun e => by
      subst e
      rw [if_pos (show ((1 : Nat) : Int) = 1 from rfl)] at hk
      simp only [Bool.and_eq_true] at hk
      exact absurd hk.1 (by decide)
    rw [if_neg (show ¬ ((op : Int) = 1) by omega)] at hk
    rw [if_neg (by decide), if_neg (by decide)] at hk
    have hs : sub < 64 := by
      have := of_decide_eq_true hk
      omega
    exact row_dta k nm form n op sub ho h1' hs hf hsp hr h0 h1
  · have hf : form.toList = [100, 116, 115] := he.symm
    clear he
    rw [hf] at hk
    rw [hf, if_neg (by decide), if_neg (by decide)] at hsp
    have h1' : op ≠ 1 := fun e => by
      subst e
      rw [if_pos (show ((1 : Nat) : Int) = 1 from rfl)] at hk
      simp only [Bool.and_eq_true] at hk
      exact absurd hk.1 (by decide)
    rw [if_neg (show ¬ ((op : Int) = 1) by omega)] at hk
    rw [if_neg (by decide), if_neg (by decide)] at hk
    have hs : sub < 64 := by
      have := of_decide_eq_true hk
      omega
    exact row_dts k nm form n op sub ho h1' hs hf hsp hr h0 h1
  · have hf : form.toList = [115] := he.symm
    clear he
    rw [hf] at hk
    rw [hf, if_neg (by decide), if_neg (by decide)] at hsp
    have h1' : op ≠ 1 := fun e => by
      subst e
      rw [if_pos (show ((1 : Nat) : Int) = 1 from rfl)] at hk
      simp only [Bool.and_eq_true] at hk
      exact absurd hk.1 (by decide)
    rw [if_neg (show ¬ ((op : Int) = 1) by omega)] at hk
    rw [if_neg (by decide), if_neg (by decide)] at hk
    have hs : sub < 64 := by
      have := of_decide_eq_true hk
      omega
    exact row_s k nm form n op sub ho h1' hs hf hsp hr h0 h1
  · have hf : form.toList = [100, 115] := he.symm
    clear he
    rw [hf] at hk
    rw [hf, if_neg (by decide), if_neg (by decide)] at hsp
    have h1' : op ≠ 1 := fun e => by
      subst e
      rw [if_pos (show ((1 : Nat) : Int) = 1 from rfl)] at hk
      simp only [Bool.and_eq_true] at hk
      exact absurd hk.1 (by decide)
    rw [if_neg (show ¬ ((op : Int) = 1) by omega)] at hk
    rw [if_neg (by decide), if_neg (by decide)] at hk
    have hs : sub < 64 := by
      have := of_decide_eq_true hk
      omega
    exact row_ds k nm form n op sub ho h1' hs hf hsp hr h0 h1
  · have hf : form.toList = [100, 115, 116] := he.symm
    clear he
    rw [hf] at hk
    rw [hf, if_neg (by decide), if_neg (by decide)] at hsp
    have h1' : op ≠ 1 := fun e => by
      subst e
      rw [if_pos (show ((1 : Nat) : Int) = 1 from rfl)] at hk
      simp only [Bool.and_eq_true] at hk
      exact absurd hk.1 (by decide)
    rw [if_neg (show ¬ ((op : Int) = 1) by omega)] at hk
    rw [if_neg (by decide), if_neg (by decide)] at hk
    have hs : sub < 64 := by
      have := of_decide_eq_true hk
      omega
    exact row_dst k nm form n op sub ho h1' hs hf hsp hr h0 h1
  · have hf : form.toList = [99] := he.symm
    clear he
    rw [hf] at hk
    rw [hf, if_neg (by decide), if_neg (by decide)] at hsp
    have h1' : op ≠ 1 := fun e => by
      subst e
      rw [if_pos (show ((1 : Nat) : Int) = 1 from rfl)] at hk
      simp only [Bool.and_eq_true] at hk
      exact absurd hk.1 (by decide)
    rw [if_neg (show ¬ ((op : Int) = 1) by omega)] at hk
    rw [if_neg (by decide), if_neg (by decide)] at hk
    have hs : sub < 64 := by
      have := of_decide_eq_true hk
      omega
    exact row_c k nm form n op sub ho h1' hs hf hsp hr h0 h1
  · have hf : form.toList = [100] := he.symm
    clear he
    rw [hf] at hk
    rw [hf, if_neg (by decide), if_neg (by decide)] at hsp
    have h1' : op ≠ 1 := fun e => by
      subst e
      rw [if_pos (show ((1 : Nat) : Int) = 1 from rfl)] at hk
      simp only [Bool.and_eq_true] at hk
      exact absurd hk.1 (by decide)
    rw [if_neg (show ¬ ((op : Int) = 1) by omega)] at hk
    rw [if_neg (by decide), if_neg (by decide)] at hk
    have hs : sub < 64 := by
      have := of_decide_eq_true hk
      omega
    exact row_d k nm form n op sub ho h1' hs hf hsp hr h0 h1
  · have hf : form.toList = [115, 116] := he.symm
    clear he
    rw [hf] at hk
    rw [hf, if_neg (by decide), if_neg (by decide)] at hsp
    have h1' : op ≠ 1 := fun e => by
      subst e
      rw [if_pos (show ((1 : Nat) : Int) = 1 from rfl)] at hk
      simp only [Bool.and_eq_true] at hk
      exact absurd hk.1 (by decide)
    rw [if_neg (show ¬ ((op : Int) = 1) by omega)] at hk
    rw [if_neg (by decide), if_neg (by decide)] at hk
    have hs : sub < 64 := by
      have := of_decide_eq_true hk
      omega
    exact row_st k nm form n op sub ho h1' hs hf hsp hr h0 h1
  · have hf : form.toList = [100, 116, 114] := he.symm
    clear he
    rw [hf] at hk
    rw [hf, if_neg (by decide), if_neg (by decide)] at hsp
    have h1' : op ≠ 1 := fun e => by
      subst e
      rw [if_pos (show ((1 : Nat) : Int) = 1 from rfl)] at hk
      simp only [Bool.and_eq_true] at hk
      exact absurd hk.1 (by decide)
    rw [if_neg (show ¬ ((op : Int) = 1) by omega)] at hk
    rw [if_neg (by decide), if_neg (by decide)] at hk
    have hs : sub < 64 := by
      have := of_decide_eq_true hk
      omega
    exact row_dtr k nm form n op sub ho h1' hs hf hsp hr h0 h1
  · have hf : form.toList = [100, 116, 118] := he.symm
    clear he
    rw [hf] at hk
    rw [hf, if_neg (by decide), if_neg (by decide)] at hsp
    have h1' : op ≠ 1 := fun e => by
      subst e
      rw [if_pos (show ((1 : Nat) : Int) = 1 from rfl)] at hk
      simp only [Bool.and_eq_true] at hk
      exact absurd hk.1 (by decide)
    rw [if_neg (show ¬ ((op : Int) = 1) by omega)] at hk
    rw [if_neg (by decide), if_neg (by decide)] at hk
    have hs : sub < 64 := by
      have := of_decide_eq_true hk
      omega
    exact row_dtv k nm form n op sub ho h1' hs hf hsp hr h0 h1
  · have hf : form.toList = [115, 111] := he.symm
    clear he
    rw [hf] at hk
    rw [hf, if_neg (by decide), if_neg (by decide)] at hsp
    by_cases h1' : (op : Int) = 1
    · rw [if_pos h1'] at hk
      have hs : sub < 32 := by
        simp only [Bool.and_eq_true, decide_eq_true_eq] at hk
        omega
      have e1 : op = 1 := by omega
      subst e1
      exact row_so1 k nm form n sub hs hf hsp hr h0 h1
    rw [if_neg h1', if_pos (by decide)] at hk
    have hs : sub = 0 := by
      have := beq_iff_eq.1 hk
      omega
    exact row_so k nm form n op sub ho (by omega) hs hf hsp hr h0 h1
  · have hf : form.toList = [106] := he.symm
    clear he
    rw [hf] at hk
    rw [hf, if_neg (by decide), if_neg (by decide)] at hsp
    have h1' : op ≠ 1 := fun e => by
      subst e
      rw [if_pos (show ((1 : Nat) : Int) = 1 from rfl)] at hk
      simp only [Bool.and_eq_true] at hk
      exact absurd hk.1 (by decide)
    rw [if_neg (show ¬ ((op : Int) = 1) by omega)] at hk
    rw [if_pos (by decide)] at hk
    have hs : sub = 0 := by
      have := beq_iff_eq.1 hk
      omega
    exact row_j k nm form n op sub ho h1' hs hf hsp hr h0 h1
  · have hf : form.toList = [115, 116, 111] := he.symm
    clear he
    rw [hf] at hk
    rw [hf, if_neg (by decide), if_neg (by decide)] at hsp
    have h1' : op ≠ 1 := fun e => by
      subst e
      rw [if_pos (show ((1 : Nat) : Int) = 1 from rfl)] at hk
      simp only [Bool.and_eq_true] at hk
      exact absurd hk.1 (by decide)
    rw [if_neg (show ¬ ((op : Int) = 1) by omega)] at hk
    rw [if_pos (by decide)] at hk
    have hs : sub = 0 := by
      have := beq_iff_eq.1 hk
      omega
    exact row_sto k nm form n op sub ho h1' hs hf hsp hr h0 h1
  · have hf : form.toList = [116, 115, 105] := he.symm
    clear he
    rw [hf] at hk
    rw [hf, if_neg (by decide), if_neg (by decide)] at hsp
    have h1' : op ≠ 1 := fun e => by
      subst e
      rw [if_pos (show ((1 : Nat) : Int) = 1 from rfl)] at hk
      simp only [Bool.and_eq_true] at hk
      exact absurd hk.1 (by decide)
    rw [if_neg (show ¬ ((op : Int) = 1) by omega)] at hk
    rw [if_pos (by decide)] at hk
    have hs : sub = 0 := by
      have := beq_iff_eq.1 hk
      omega
    exact row_tsi k nm form n op sub ho h1' hs hf hsp hr h0 h1
  · have hf : form.toList = [116, 105] := he.symm
    clear he
    rw [hf] at hk
    rw [hf, if_neg (by decide), if_neg (by decide)] at hsp
    have h1' : op ≠ 1 := fun e => by
      subst e
      rw [if_pos (show ((1 : Nat) : Int) = 1 from rfl)] at hk
      simp only [Bool.and_eq_true] at hk
      exact absurd hk.1 (by decide)
    rw [if_neg (show ¬ ((op : Int) = 1) by omega)] at hk
    rw [if_pos (by decide)] at hk
    have hs : sub = 0 := by
      have := beq_iff_eq.1 hk
      omega
    exact row_ti k nm form n op sub ho h1' hs hf hsp hr h0 h1
  · have hf : form.toList = [100, 115, 100] := he.symm
    clear he
    rw [hf] at hk
    rw [hf, if_neg (by decide), if_neg (by decide)] at hsp
    have h1' : op ≠ 1 := fun e => by
      subst e
      rw [if_pos (show ((1 : Nat) : Int) = 1 from rfl)] at hk
      simp only [Bool.and_eq_true] at hk
      exact absurd hk.1 (by decide)
    rw [if_neg (show ¬ ((op : Int) = 1) by omega)] at hk
    rw [if_neg (by decide), if_neg (by decide)] at hk
    have hs : sub < 64 := by
      have := of_decide_eq_true hk
      omega
    exact row_dsd k nm form n op sub ho h1' hs hf hsp hr h0 h1
  · have hf : form.toList = [116, 115, 120] := he.symm
    clear he
    rw [hf] at hk
    rw [hf, if_neg (by decide), if_neg (by decide)] at hsp
    have h1' : op ≠ 1 := fun e => by
      subst e
      rw [if_pos (show ((1 : Nat) : Int) = 1 from rfl)] at hk
      simp only [Bool.and_eq_true] at hk
      exact absurd hk.1 (by decide)
    rw [if_neg (show ¬ ((op : Int) = 1) by omega)] at hk
    rw [if_neg (by decide), if_neg (by decide)] at hk
    have hs : sub < 64 := by
      have := of_decide_eq_true hk
      omega
    exact row_tsx k nm form n op sub ho h1' hs hf hsp hr h0 h1
  · have hf : form.toList = [100, 116] := he.symm
    clear he
    rw [hf] at hk
    rw [hf, if_pos rfl, if_pos rfl] at hsp
    have h1' : op ≠ 1 := fun e => by
      subst e
      rw [if_pos (show ((1 : Nat) : Int) = 1 from rfl)] at hk
      simp only [Bool.and_eq_true] at hk
      exact absurd hk.1 (by decide)
    rw [if_neg (show ¬ ((op : Int) = 1) by omega)] at hk
    rw [if_neg (by decide), if_pos rfl] at hk
    have hs : sub < 2048 := by
      have := of_decide_eq_true hk
      omega
    exact row_dt k nm form n op sub ho h1' hs hf (by rw [hsp]; rfl) hr h0 h1
  · have hf : form.toList = [116, 100] := he.symm
    clear he
    rw [hf] at hk
    rw [hf, if_neg (by decide), if_neg (by decide)] at hsp
    have h1' : op ≠ 1 := fun e => by
      subst e
      rw [if_pos (show ((1 : Nat) : Int) = 1 from rfl)] at hk
      simp only [Bool.and_eq_true] at hk
      exact absurd hk.1 (by decide)
    rw [if_neg (show ¬ ((op : Int) = 1) by omega)] at hk
    rw [if_neg (by decide), if_neg (by decide)] at hk
    have hs : sub < 64 := by
      have := of_decide_eq_true hk
      omega
    exact row_td k nm form n op sub ho h1' hs hf hsp hr h0 h1
  · have hf : form.toList = [116, 109] := he.symm
    clear he
    rw [hf] at hk
    rw [hf, if_neg (by decide), if_neg (by decide)] at hsp
    have h1' : op ≠ 1 := fun e => by
      subst e
      rw [if_pos (show ((1 : Nat) : Int) = 1 from rfl)] at hk
      simp only [Bool.and_eq_true] at hk
      exact absurd hk.1 (by decide)
    rw [if_neg (show ¬ ((op : Int) = 1) by omega)] at hk
    rw [if_pos (by decide)] at hk
    have hs : sub = 0 := by
      have := beq_iff_eq.1 hk
      omega
    exact row_tm k nm form n op sub ho h1' hs hf hsp hr h0 h1
end Go.Proofs.YtnddjndgfaefaaaDoor.F
end
