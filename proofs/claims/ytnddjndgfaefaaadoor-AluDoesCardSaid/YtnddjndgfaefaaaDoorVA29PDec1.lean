import Derived.Below
import Derived.Deep.Draws
import Derived.Deep.AppendLies
import Derived.Maps.AppendAt
import Derived.OwnWalk
import Derived.Laws.BytesArg
import Derived.Laws.MakeOwn
import Derived.Laws.OwnMore
import Derived.Deep.OwnRows
import Derived.Tactics
import Derived.Lib.ConvBytes
import Derived.Laws.Slices
import Derived.WalkKit
import Derived.KernelRfl
import Derived.RowKit3
import Derived.Deep.LoopGhost
import Derived.Deep.QuietTactic
import Derived.BigQuiet
import Derived.WideLaws
import Derived.Deep.DeepCutAuto
import Derived.Deep.CutBlock
import Derived.Deep.RegionHeld3
import Derived.Laws.Rows
import Derived.Lib.AppendStr
import Derived.ArgAppend
import Derived.Laws.IdiomCopy
import Derived.RowKit
import Derived.OrdersHeld
import Derived.Laws.BitsLemmas
import Derived.Laws.StructEq
import Derived.Shelf.Small.Bits
import Derived.Shelf.LaysM
import Derived.Shelf.Strings.Fields
import Derived.Shelf.Strings.Replace
import Derived.Shelf.Strings.SplitShaped
import Derived.Lib.LaidTab
import Derived.Shelf.Abstract
import Derived.RangeFuncRecord
import Derived.ProofKit
import Derived.Lib.Hide
import Derived.Maps.OwnOps
import Derived.OwnWalkIn
import Derived.WalkSmall
import Derived.Laws.ResultCell
import Derived.Shelf.RegionOpen
import Derived.Deep.RegionWith
import Derived.Test.YtnddjndgfaefaaaDoorVZF0
import Derived.Test.YtnddjndgfaefaaaDoorVA3HDecTake
import Derived.Test.YtnddjndgfaefaaaDoorVA4
import Derived.Test.YtnddjndgfaefaaaDoorVA9HDecLay
import Derived.Test.YtnddjndgfaefaaaDoorVA10HDecForms
import Derived.Test.YtnddjndgfaefaaaDoorVA28
section
namespace Go.Proofs.YtnddjndgfaefaaaDoor.F
open Go.RowKit Go.Proofs.YtnddjndgfaefaaaDoorW.PrintWords Go.Proofs.YtnddjndgfaefaaaDoorW.PrintLast Go.Proofs.YtnddjndgfaefaaaDoorW.PrintMore
set_option linter.unusedVariables false
set_option linter.unusedSimpArgs false
def W (o s t d a f : Nat) : Nat := mkW (o % 64) (s % 32) (t % 32) (d % 32) (a % 32) (f % 64)
theorem W_lt (o s t d a f : Nat) : W o s t d a f < 4294967296 := mkW_lt (by omega) (by omega) (by omega) (by omega) (by omega) (by omega)
theorem W_or (o s t d a f o' s' t' d' a' f' : Nat) : Go.bits .or .u32 (W o s t d a f : Int) (W o' s' t' d' a' f' : Int) = (W (o ||| o') (s ||| s') (t ||| t') (d ||| d') (a ||| a') (f ||| f') : Int) := by
  unfold W
  have e6 : ∀ x y : Nat, (x ||| y) % 64 = x % 64 ||| y % 64 := fun x y => Nat.or_mod_two_pow (n := 6)
  have e5 : ∀ x y : Nat, (x ||| y) % 32 = x % 32 ||| y % 32 := fun x y => Nat.or_mod_two_pow (n := 5)
  rw [mkW_orI (by omega) (by omega) (by omega) (by omega) (by omega) (by omega) (by omega) (by omega) (by omega) (by omega) (by omega) (by omega), e6, e5, e5, e5, e5, e6]
theorem W_val (o s t d a f : Nat) : (W o s t d a f : Int) = 67108864 * ((o % 64 : Nat) : Int) + (2097152 * ((s % 32 : Nat) : Int) + (65536 * ((t % 32 : Nat) : Int) + (2048 * ((d % 32 : Nat) : Int) + (64 * ((a % 32 : Nat) : Int) + ((f % 64 : Nat) : Int))))) := by
  unfold W mkW
  omega
theorem W_zero : (0 : Int) = (W 0 0 0 0 0 0 : Int) := by decide
def dg (n : Int) : Nat := (n % 32).toNat
theorem dg_lt (n : Int) : dg n < 32 := by unfold dg; omega
theorem put_dg (n : Int) : bits .and .u32 (n % 4294967296) 31 = (dg n : Int) := by
  have hm := mask32 (x := n % 4294967296) 5 (by decide) (by omega) (by omega)
  simp only [Int.reducePow, Int.reduceSub] at hm
  rw [hm]
  unfold dg
  omega
theorem put_s (n : Int) : putOf n 2097152 = (W 0 (dg n) 0 0 0 0 : Int) := by
  have := dg_lt n
  unfold putOf
  rw [put_dg, W_val]
  omega
theorem put_t (n : Int) : putOf n 65536 = (W 0 0 (dg n) 0 0 0 : Int) := by
  have := dg_lt n
  unfold putOf
  rw [put_dg, W_val]
  omega
theorem put_d (n : Int) : putOf n 2048 = (W 0 0 0 (dg n) 0 0 : Int) := by
  have := dg_lt n
  unfold putOf
  rw [put_dg, W_val]
  omega
theorem put_a (n : Int) : putOf n 64 = (W 0 0 0 0 (dg n) 0 : Int) := by
  have := dg_lt n
  unfold putOf
  rw [put_dg, W_val]
  omega
theorem imm16 (i : Int) (h0 : 0 ≤ i) (h1 : i ≤ 4294967295) : immPut 0 16 i = (W 0 0 0 (i.toNat / 2048) (i.toNat / 64) i.toNat : Int) := by
  show bits .and .u32 i 65535 % 4294967296 = _
  have hm := mask32 16 (by decide) h0 h1
  simp only [Int.reducePow, Int.reduceSub] at hm
  rw [hm, W_val]
  omega
theorem imm26 (i : Int) (h0 : 0 ≤ i) (h1 : i ≤ 4294967295) : immPut 0 26 i = (W 0 (i.toNat / 2097152) (i.toNat / 65536) (i.toNat / 2048) (i.toNat / 64) i.toNat : Int) := by
  show bits .and .u32 i 67108863 % 4294967296 = _
  have hm := mask32 26 (by decide) h0 h1
  simp only [Int.reducePow, Int.reduceSub] at hm
  rw [hm, W_val]
  omega
theorem imm20 (i : Int) (h0 : 0 ≤ i) (h1 : i ≤ 4294967295) : immPut 6 20 i = (W 0 (i.toNat / 32768) (i.toNat / 1024) (i.toNat / 32) i.toNat 0 : Int) := by
  show bits .and .u32 i 1048575 * 64 % 4294967296 = _
  have hm := mask32 20 (by decide) h0 h1
  simp only [Int.reducePow, Int.reduceSub] at hm
  rw [hm, W_val]
  omega
theorem fix_op (op : Nat) (h : op < 64) : ((op : Int) * 67108864 % 4294967296) = (W op 0 0 0 0 0 : Int) := by
  rw [W_val]
  omega
theorem fix_sub (sub : Nat) (h : sub < 2048) : bits .and .u32 (sub : Int) 63 = (W 0 0 0 0 0 sub : Int) := by
  have hm := mask32 (x := (sub : Int)) 6 (by decide) (by omega) (by omega)
  simp only [Int.reducePow, Int.reduceSub] at hm
  rw [hm, W_val]
  omega
theorem fix_dt (sub : Nat) (h : sub < 2048) : ((sub : Int) / 64 * 64 % 4294967296) = (W 0 0 0 0 (sub / 64) 0 : Int) := by
  rw [W_val]
  omega
theorem fix_one (sub : Nat) (h : sub < 32) : ((sub : Int) * 65536 % 4294967296) = (W 0 0 sub 0 0 0 : Int) := by
  rw [W_val]
  omega
theorem fix_dsd (o s t d a f : Nat) : bits .and .u32 ((W o s t d a f : Int) / 2048) 31 * 65536 % 4294967296 = (W 0 0 d 0 0 0 : Int) := by
  have hl := W_lt o s t d a f
  have hm := mask32 (x := (W o s t d a f : Int) / 2048) 5 (by decide) (by omega) (by omega)
  simp only [Int.reducePow, Int.reduceSub] at hm
  rw [hm, W_val, W_val]
  omega
theorem fix_c1 : (67108864 : Int) = (W 1 0 0 0 0 0 : Int) := by decide
theorem fix_c2 : (2097152 : Int) = (W 0 1 0 0 0 0 : Int) := by decide
theorem fix_c3 : (64 : Int) = (W 0 0 0 0 1 0 : Int) := by decide
theorem layOne_i (x : Nums) (fr bt v : Int) : layOne x fr bt v 105 = bits .or .u32 v (immPut fr bt x.i) := by
  unfold layOne
  rw [if_pos rfl]
theorem layOne_s (x : Nums) (fr bt v : Int) : layOne x fr bt v 115 = bits .or .u32 v (putOf x.s 2097152) := by
  unfold layOne
  rw [if_neg (by decide), if_pos rfl]
theorem layOne_t (x : Nums) (fr bt v : Int) : layOne x fr bt v 116 = bits .or .u32 v (putOf x.t 65536) := by
  unfold layOne
  rw [if_neg (by decide), if_neg (by decide), if_pos rfl]
theorem layOne_d (x : Nums) (fr bt v : Int) : layOne x fr bt v 100 = bits .or .u32 v (putOf x.d 2048) := by
  unfold layOne
  rw [if_neg (by decide), if_neg (by decide), if_neg (by decide), if_pos rfl]
theorem layOne_a (x : Nums) (fr bt v : Int) : layOne x fr bt v 97 = bits .or .u32 v (putOf x.a 64) := by
  unfold layOne
  rw [if_neg (by decide), if_neg (by decide), if_neg (by decide), if_neg (by decide)]
theorem fields_dta (x : Nums) : layFields ([100, 116, 97], [100, 116, 97], 0, 16) x = (W 0 0 (dg x.t) (dg x.d) (dg x.a) 0 : Int) := by
  unfold layFields
  simp only [List.foldl_cons, List.foldl_nil, layOne_i, layOne_s, layOne_t, layOne_d, layOne_a]
  simp only [put_s, put_t, put_d, put_a]
  rw [W_zero]
  simp only [W_or, Nat.zero_or, Nat.or_zero]
theorem fields_dts (x : Nums) : layFields ([100, 116, 115], [100, 116, 115], 0, 16) x = (W 0 (dg x.s) (dg x.t) (dg x.d) 0 0 : Int) := by
  unfold layFields
  simp only [List.foldl_cons, List.foldl_nil, layOne_i, layOne_s, layOne_t, layOne_d, layOne_a]
  simp only [put_s, put_t, put_d, put_a]
  rw [W_zero]
  simp only [W_or, Nat.zero_or, Nat.or_zero]
theorem fields_s (x : Nums) : layFields ([115], [115], 0, 16) x = (W 0 (dg x.s) 0 0 0 0 : Int) := by
  unfold layFields
  simp only [List.foldl_cons, List.foldl_nil, layOne_i, layOne_s, layOne_t, layOne_d, layOne_a]
  simp only [put_s, put_t, put_d, put_a]
  rw [W_zero]
  simp only [W_or, Nat.zero_or, Nat.or_zero]
theorem fields_ds (x : Nums) : layFields ([100, 115], [100, 115], 0, 16) x = (W 0 (dg x.s) 0 (dg x.d) 0 0 : Int) := by
  unfold layFields
  simp only [List.foldl_cons, List.foldl_nil, layOne_i, layOne_s, layOne_t, layOne_d, layOne_a]
  simp only [put_s, put_t, put_d, put_a]
  rw [W_zero]
  simp only [W_or, Nat.zero_or, Nat.or_zero]
theorem fields_dst (x : Nums) : layFields ([100, 115, 116], [100, 115, 116], 0, 16) x = (W 0 (dg x.s) (dg x.t) (dg x.d) 0 0 : Int) := by
  unfold layFields
  simp only [List.foldl_cons, List.foldl_nil, layOne_i, layOne_s, layOne_t, layOne_d, layOne_a]
  simp only [put_s, put_t, put_d, put_a]
  rw [W_zero]
  simp only [W_or, Nat.zero_or, Nat.or_zero]
theorem fields_c (x : Nums) (h0 : 0 ≤ x.i) (h1 : x.i ≤ 4294967295) : layFields ([99], [105], 6, 20) x = (W 0 (x.i.toNat / 32768) (x.i.toNat / 1024) (x.i.toNat / 32) x.i.toNat 0 : Int) := by
  unfold layFields
  simp only [List.foldl_cons, List.foldl_nil, layOne_i, layOne_s, layOne_t, layOne_d, layOne_a]
  simp only [put_s, put_t, put_d, put_a, imm20 x.i h0 h1]
  rw [W_zero]
  simp only [W_or, Nat.zero_or, Nat.or_zero]
theorem fields_d (x : Nums) : layFields ([100], [100], 0, 16) x = (W 0 0 0 (dg x.d) 0 0 : Int) := by
  unfold layFields
  simp only [List.foldl_cons, List.foldl_nil, layOne_i, layOne_s, layOne_t, layOne_d, layOne_a]
  simp only [put_s, put_t, put_d, put_a]
  rw [W_zero]
  simp only [W_or, Nat.zero_or, Nat.or_zero]
theorem fields_st (x : Nums) : layFields ([115, 116], [115, 116], 0, 16) x = (W 0 (dg x.s) (dg x.t) 0 0 0 : Int) := by
  unfold layFields
  simp only [List.foldl_cons, List.foldl_nil, layOne_i, layOne_s, layOne_t, layOne_d, layOne_a]
  simp only [put_s, put_t, put_d, put_a]
  rw [W_zero]
  simp only [W_or, Nat.zero_or, Nat.or_zero]
theorem fields_dtr (x : Nums) : layFields ([100, 116, 114], [100, 116, 97], 0, 16) x = (W 0 0 (dg x.t) (dg x.d) (dg x.a) 0 : Int) := by
  unfold layFields
  simp only [List.foldl_cons, List.foldl_nil, layOne_i, layOne_s, layOne_t, layOne_d, layOne_a]
  simp only [put_s, put_t, put_d, put_a]
  rw [W_zero]
  simp only [W_or, Nat.zero_or, Nat.or_zero]
theorem fields_dtv (x : Nums) : layFields ([100, 116, 118], [100, 116, 115], 0, 16) x = (W 0 (dg x.s) (dg x.t) (dg x.d) 0 0 : Int) := by
  unfold layFields
  simp only [List.foldl_cons, List.foldl_nil, layOne_i, layOne_s, layOne_t, layOne_d, layOne_a]
  simp only [put_s, put_t, put_d, put_a]
  rw [W_zero]
  simp only [W_or, Nat.zero_or, Nat.or_zero]
theorem fields_so (x : Nums) (h0 : 0 ≤ x.i) (h1 : x.i ≤ 4294967295) : layFields ([115, 111], [115, 105], 0, 16) x = (W 0 (dg x.s) 0 (x.i.toNat / 2048) (x.i.toNat / 64) x.i.toNat : Int) := by
  unfold layFields
  simp only [List.foldl_cons, List.foldl_nil, layOne_i, layOne_s, layOne_t, layOne_d, layOne_a]
  simp only [put_s, put_t, put_d, put_a, imm16 x.i h0 h1]
  rw [W_zero]
  simp only [W_or, Nat.zero_or, Nat.or_zero]
theorem fields_j (x : Nums) (h0 : 0 ≤ x.i) (h1 : x.i ≤ 4294967295) : layFields ([106], [105], 0, 26) x = (W 0 (x.i.toNat / 2097152) (x.i.toNat / 65536) (x.i.toNat / 2048) (x.i.toNat / 64) x.i.toNat : Int) := by
  unfold layFields
  simp only [List.foldl_cons, List.foldl_nil, layOne_i, layOne_s, layOne_t, layOne_d, layOne_a]
  simp only [put_s, put_t, put_d, put_a, imm26 x.i h0 h1]
  rw [W_zero]
  simp only [W_or, Nat.zero_or, Nat.or_zero]
theorem fields_sto (x : Nums) (h0 : 0 ≤ x.i) (h1 : x.i ≤ 4294967295) : layFields ([115, 116, 111], [115, 116, 105], 0, 16) x = (W 0 (dg x.s) (dg x.t) (x.i.toNat / 2048) (x.i.toNat / 64) x.i.toNat : Int) := by
  unfold layFields
  simp only [List.foldl_cons, List.foldl_nil, layOne_i, layOne_s, layOne_t, layOne_d, layOne_a]
  simp only [put_s, put_t, put_d, put_a, imm16 x.i h0 h1]
  rw [W_zero]
  simp only [W_or, Nat.zero_or, Nat.or_zero]
theorem fields_tsi (x : Nums) (h0 : 0 ≤ x.i) (h1 : x.i ≤ 4294967295) : layFields ([116, 115, 105], [116, 115, 105], 0, 16) x = (W 0 (dg x.s) (dg x.t) (x.i.toNat / 2048) (x.i.toNat / 64) x.i.toNat : Int) := by
  unfold layFields
  simp only [List.foldl_cons, List.foldl_nil, layOne_i, layOne_s, layOne_t, layOne_d, layOne_a]
  simp only [put_s, put_t, put_d, put_a, imm16 x.i h0 h1]
  rw [W_zero]
  simp only [W_or, Nat.zero_or, Nat.or_zero]
theorem fields_ti (x : Nums) (h0 : 0 ≤ x.i) (h1 : x.i ≤ 4294967295) : layFields ([116, 105], [116, 105], 0, 16) x = (W 0 0 (dg x.t) (x.i.toNat / 2048) (x.i.toNat / 64) x.i.toNat : Int) := by
  unfold layFields
  simp only [List.foldl_cons, List.foldl_nil, layOne_i, layOne_s, layOne_t, layOne_d, layOne_a]
  simp only [put_s, put_t, put_d, put_a, imm16 x.i h0 h1]
  rw [W_zero]
  simp only [W_or, Nat.zero_or, Nat.or_zero]
theorem fields_dsd (x : Nums) : layFields ([100, 115, 100], [100, 115], 0, 16) x = (W 0 (dg x.s) 0 (dg x.d) 0 0 : Int) := by
  unfold layFields
  simp only [List.foldl_cons, List.foldl_nil, layOne_i, layOne_s, layOne_t, layOne_d, layOne_a]
  simp only [put_s, put_t, put_d, put_a]
  rw [W_zero]
  simp only [W_or, Nat.zero_or, Nat.or_zero]
theorem fields_tsx (x : Nums) : layFields ([116, 115, 120], [116, 115, 100, 97], 0, 16) x = (W 0 (dg x.s) (dg x.t) (dg x.d) (dg x.a) 0 : Int) := by
  unfold layFields
  simp only [List.foldl_cons, List.foldl_nil, layOne_i, layOne_s, layOne_t, layOne_d, layOne_a]
  simp only [put_s, put_t, put_d, put_a]
  rw [W_zero]
  simp only [W_or, Nat.zero_or, Nat.or_zero]
theorem fields_dt (x : Nums) : layFields ([100, 116], [100, 116], 0, 16) x = (W 0 0 (dg x.t) (dg x.d) 0 0 : Int) := by
  unfold layFields
  simp only [List.foldl_cons, List.foldl_nil, layOne_i, layOne_s, layOne_t, layOne_d, layOne_a]
  simp only [put_s, put_t, put_d, put_a]
  rw [W_zero]
  simp only [W_or, Nat.zero_or, Nat.or_zero]
theorem fields_td (x : Nums) : layFields ([116, 100], [116, 100], 0, 16) x = (W 0 0 (dg x.t) (dg x.d) 0 0 : Int) := by
  unfold layFields
  simp only [List.foldl_cons, List.foldl_nil, layOne_i, layOne_s, layOne_t, layOne_d, layOne_a]
  simp only [put_s, put_t, put_d, put_a]
  rw [W_zero]
  simp only [W_or, Nat.zero_or, Nat.or_zero]
theorem fields_tm (x : Nums) (h0 : 0 ≤ x.i) (h1 : x.i ≤ 4294967295) : layFields ([116, 109], [116, 115, 105], 0, 16) x = (W 0 (dg x.s) (dg x.t) (x.i.toNat / 2048) (x.i.toNat / 64) x.i.toNat : Int) := by
  unfold layFields
  simp only [List.foldl_cons, List.foldl_nil, layOne_i, layOne_s, layOne_t, layOne_d, layOne_a]
  simp only [put_s, put_t, put_d, put_a, imm16 x.i h0 h1]
  rw [W_zero]
  simp only [W_or, Nat.zero_or, Nat.or_zero]
theorem lay_dta (op sub : Nat) (ho : op < 64) (h1' : op ≠ 1) (hs : sub < 2048) (x : Nums) : layAll ([100, 116, 97], [100, 116, 97], 0, 16) (op : Int) (sub : Int) x = (W op 0 (dg x.t) (dg x.d) (dg x.a) sub : Int) := by
  have e : fixedOf [100, 116, 97] (op : Int) (sub : Int) (layFields ([100, 116, 97], [100, 116, 97], 0, 16) x) = (bits .or .u32 ((op : Int) * 67108864 % 4294967296) (bits .and .u32 (sub : Int) 63)) := by
    unfold fixedOf
    rw [if_neg (show ¬ ((op : Int) = 1) by omega)]
    rw [if_neg (by decide), if_neg (by decide), if_neg (by decide), if_neg (by decide)]
  unfold layAll
  dsimp only
  rw [e, fields_dta x, fix_op op ho, fix_sub sub hs]
  simp only [W_or, Nat.zero_or, Nat.or_zero]
theorem lay_dts (op sub : Nat) (ho : op < 64) (h1' : op ≠ 1) (hs : sub < 2048) (x : Nums) : layAll ([100, 116, 115], [100, 116, 115], 0, 16) (op : Int) (sub : Int) x = (W op (dg x.s) (dg x.t) (dg x.d) 0 sub : Int) := by
  have e : fixedOf [100, 116, 115] (op : Int) (sub : Int) (layFields ([100, 116, 115], [100, 116, 115], 0, 16) x) = (bits .or .u32 ((op : Int) * 67108864 % 4294967296) (bits .and .u32 (sub : Int) 63)) := by
    unfold fixedOf
    rw [if_neg (show ¬ ((op : Int) = 1) by omega)]
    rw [if_neg (by decide), if_neg (by decide), if_neg (by decide), if_neg (by decide)]
  unfold layAll
  dsimp only
  rw [e, fields_dts x, fix_op op ho, fix_sub sub hs]
  simp only [W_or, Nat.zero_or, Nat.or_zero]
theorem lay_s (op sub : Nat) (ho : op < 64) (h1' : op ≠ 1) (hs : sub < 2048) (x : Nums) : layAll ([115], [115], 0, 16) (op : Int) (sub : Int) x = (W op (dg x.s) 0 0 0 sub : Int) := by
  have e : fixedOf [115] (op : Int) (sub : Int) (layFields ([115], [115], 0, 16) x) = (bits .or .u32 ((op : Int) * 67108864 % 4294967296) (bits .and .u32 (sub : Int) 63)) := by
    unfold fixedOf
    rw [if_neg (show ¬ ((op : Int) = 1) by omega)]
    rw [if_neg (by decide), if_neg (by decide), if_neg (by decide), if_neg (by decide)]
  unfold layAll
  dsimp only
  rw [e, fields_s x, fix_op op ho, fix_sub sub hs]
  simp only [W_or, Nat.zero_or, Nat.or_zero]
theorem lay_ds (op sub : Nat) (ho : op < 64) (h1' : op ≠ 1) (hs : sub < 2048) (x : Nums) : layAll ([100, 115], [100, 115], 0, 16) (op : Int) (sub : Int) x = (W op (dg x.s) 0 (dg x.d) 0 sub : Int) := by
  have e : fixedOf [100, 115] (op : Int) (sub : Int) (layFields ([100, 115], [100, 115], 0, 16) x) = (bits .or .u32 ((op : Int) * 67108864 % 4294967296) (bits .and .u32 (sub : Int) 63)) := by
    unfold fixedOf
    rw [if_neg (show ¬ ((op : Int) = 1) by omega)]
    rw [if_neg (by decide), if_neg (by decide), if_neg (by decide), if_neg (by decide)]
  unfold layAll
  dsimp only
  rw [e, fields_ds x, fix_op op ho, fix_sub sub hs]
  simp only [W_or, Nat.zero_or, Nat.or_zero]
theorem lay_dst (op sub : Nat) (ho : op < 64) (h1' : op ≠ 1) (hs : sub < 2048) (x : Nums) : layAll ([100, 115, 116], [100, 115, 116], 0, 16) (op : Int) (sub : Int) x = (W op (dg x.s) (dg x.t) (dg x.d) 0 sub : Int) := by
  have e : fixedOf [100, 115, 116] (op : Int) (sub : Int) (layFields ([100, 115, 116], [100, 115, 116], 0, 16) x) = (bits .or .u32 ((op : Int) * 67108864 % 4294967296) (bits .and .u32 (sub : Int) 63)) := by
    unfold fixedOf
    rw [if_neg (show ¬ ((op : Int) = 1) by omega)]
    rw [if_neg (by decide), if_neg (by decide), if_neg (by decide), if_neg (by decide)]
  unfold layAll
  dsimp only
  rw [e, fields_dst x, fix_op op ho, fix_sub sub hs]
  simp only [W_or, Nat.zero_or, Nat.or_zero]
theorem lay_c (op sub : Nat) (ho : op < 64) (h1' : op ≠ 1) (hs : sub < 2048) (x : Nums) (h0 : 0 ≤ x.i) (h1 : x.i ≤ 4294967295) : layAll ([99], [105], 6, 20) (op : Int) (sub : Int) x = (W op (x.i.toNat / 32768) (x.i.toNat / 1024) (x.i.toNat / 32) x.i.toNat sub : Int) := by
  have e : fixedOf [99] (op : Int) (sub : Int) (layFields ([99], [105], 6, 20) x) = (bits .or .u32 ((op : Int) * 67108864 % 4294967296) (bits .and .u32 (sub : Int) 63)) := by
    unfold fixedOf
    rw [if_neg (show ¬ ((op : Int) = 1) by omega)]
    rw [if_neg (by decide), if_neg (by decide), if_neg (by decide), if_neg (by decide)]
  unfold layAll
  dsimp only
  rw [e, fields_c x h0 h1, fix_op op ho, fix_sub sub hs]
  simp only [W_or, Nat.zero_or, Nat.or_zero]
theorem lay_d (op sub : Nat) (ho : op < 64) (h1' : op ≠ 1) (hs : sub < 2048) (x : Nums) : layAll ([100], [100], 0, 16) (op : Int) (sub : Int) x = (W op 0 0 (dg x.d) 0 sub : Int) := by
  have e : fixedOf [100] (op : Int) (sub : Int) (layFields ([100], [100], 0, 16) x) = (bits .or .u32 ((op : Int) * 67108864 % 4294967296) (bits .and .u32 (sub : Int) 63)) := by
    unfold fixedOf
    rw [if_neg (show ¬ ((op : Int) = 1) by omega)]
    rw [if_neg (by decide), if_neg (by decide), if_neg (by decide), if_neg (by decide)]
  unfold layAll
  dsimp only
  rw [e, fields_d x, fix_op op ho, fix_sub sub hs]
  simp only [W_or, Nat.zero_or, Nat.or_zero]
theorem lay_st (op sub : Nat) (ho : op < 64) (h1' : op ≠ 1) (hs : sub < 2048) (x : Nums) : layAll ([115, 116], [115, 116], 0, 16) (op : Int) (sub : Int) x = (W op (dg x.s) (dg x.t) 0 0 sub : Int) := by
  have e : fixedOf [115, 116] (op : Int) (sub : Int) (layFields ([115, 116], [115, 116], 0, 16) x) = (bits .or .u32 ((op : Int) * 67108864 % 4294967296) (bits .and .u32 (sub : Int) 63)) := by
    unfold fixedOf
    rw [if_neg (show ¬ ((op : Int) = 1) by omega)]
    rw [if_neg (by decide), if_neg (by decide), if_neg (by decide), if_neg (by decide)]
  unfold layAll
  dsimp only
  rw [e, fields_st x, fix_op op ho, fix_sub sub hs]
  simp only [W_or, Nat.zero_or, Nat.or_zero]
theorem lay_dtr (op sub : Nat) (ho : op < 64) (h1' : op ≠ 1) (hs : sub < 2048) (x : Nums) : layAll ([100, 116, 114], [100, 116, 97], 0, 16) (op : Int) (sub : Int) x = (W op 1 (dg x.t) (dg x.d) (dg x.a) sub : Int) := by
  have e : fixedOf [100, 116, 114] (op : Int) (sub : Int) (layFields ([100, 116, 114], [100, 116, 97], 0, 16) x) = (bits .or .u32 (bits .or .u32 ((op : Int) * 67108864 % 4294967296) (bits .and .u32 (sub : Int) 63)) 2097152) := by
    unfold fixedOf
    rw [if_neg (show ¬ ((op : Int) = 1) by omega)]
    rw [if_neg (by decide), if_pos rfl]
  unfold layAll
  dsimp only
  rw [e, fields_dtr x, fix_op op ho, fix_sub sub hs]
  rw [fix_c2]
  simp only [W_or, Nat.zero_or, Nat.or_zero]
theorem lay_dtv (op sub : Nat) (ho : op < 64) (h1' : op ≠ 1) (hs : sub < 2048) (x : Nums) : layAll ([100, 116, 118], [100, 116, 115], 0, 16) (op : Int) (sub : Int) x = (W op (dg x.s) (dg x.t) (dg x.d) 1 sub : Int) := by
  have e : fixedOf [100, 116, 118] (op : Int) (sub : Int) (layFields ([100, 116, 118], [100, 116, 115], 0, 16) x) = (bits .or .u32 (bits .or .u32 ((op : Int) * 67108864 % 4294967296) (bits .and .u32 (sub : Int) 63)) 64) := by
    unfold fixedOf
    rw [if_neg (show ¬ ((op : Int) = 1) by omega)]
    rw [if_neg (by decide), if_neg (by decide), if_pos rfl]
  unfold layAll
  dsimp only
  rw [e, fields_dtv x, fix_op op ho, fix_sub sub hs]
  rw [fix_c3]
  simp only [W_or, Nat.zero_or, Nat.or_zero]
theorem lay_so (op sub : Nat) (ho : op < 64) (h1' : op ≠ 1) (hs : sub < 2048) (x : Nums) (h0 : 0 ≤ x.i) (h1 : x.i ≤ 4294967295) : layAll ([115, 111], [115, 105], 0, 16) (op : Int) (sub : Int) x = (W op (dg x.s) 0 (x.i.toNat / 2048) (x.i.toNat / 64) (x.i.toNat ||| sub) : Int) := by
  have e : fixedOf [115, 111] (op : Int) (sub : Int) (layFields ([115, 111], [115, 105], 0, 16) x) = (bits .or .u32 ((op : Int) * 67108864 % 4294967296) (bits .and .u32 (sub : Int) 63)) := by
    unfold fixedOf
    rw [if_neg (show ¬ ((op : Int) = 1) by omega)]
    rw [if_neg (by decide), if_neg (by decide), if_neg (by decide), if_neg (by decide)]
  unfold layAll
  dsimp only
  rw [e, fields_so x h0 h1, fix_op op ho, fix_sub sub hs]
  simp only [W_or, Nat.zero_or, Nat.or_zero]
theorem lay_j (op sub : Nat) (ho : op < 64) (h1' : op ≠ 1) (hs : sub < 2048) (x : Nums) (h0 : 0 ≤ x.i) (h1 : x.i ≤ 4294967295) : layAll ([106], [105], 0, 26) (op : Int) (sub : Int) x = (W op (x.i.toNat / 2097152) (x.i.toNat / 65536) (x.i.toNat / 2048) (x.i.toNat / 64) (x.i.toNat ||| sub) : Int) := by
  have e : fixedOf [106] (op : Int) (sub : Int) (layFields ([106], [105], 0, 26) x) = (bits .or .u32 ((op : Int) * 67108864 % 4294967296) (bits .and .u32 (sub : Int) 63)) := by
    unfold fixedOf
    rw [if_neg (show ¬ ((op : Int) = 1) by omega)]
    rw [if_neg (by decide), if_neg (by decide), if_neg (by decide), if_neg (by decide)]
  unfold layAll
  dsimp only
  rw [e, fields_j x h0 h1, fix_op op ho, fix_sub sub hs]
  simp only [W_or, Nat.zero_or, Nat.or_zero]
theorem lay_sto (op sub : Nat) (ho : op < 64) (h1' : op ≠ 1) (hs : sub < 2048) (x : Nums) (h0 : 0 ≤ x.i) (h1 : x.i ≤ 4294967295) : layAll ([115, 116, 111], [115, 116, 105], 0, 16) (op : Int) (sub : Int) x = (W op (dg x.s) (dg x.t) (x.i.toNat / 2048) (x.i.toNat / 64) (x.i.toNat ||| sub) : Int) := by
  have e : fixedOf [115, 116, 111] (op : Int) (sub : Int) (layFields ([115, 116, 111], [115, 116, 105], 0, 16) x) = (bits .or .u32 ((op : Int) * 67108864 % 4294967296) (bits .and .u32 (sub : Int) 63)) := by
    unfold fixedOf
    rw [if_neg (show ¬ ((op : Int) = 1) by omega)]
    rw [if_neg (by decide), if_neg (by decide), if_neg (by decide), if_neg (by decide)]
  unfold layAll
  dsimp only
  rw [e, fields_sto x h0 h1, fix_op op ho, fix_sub sub hs]
  simp only [W_or, Nat.zero_or, Nat.or_zero]
theorem lay_tsi (op sub : Nat) (ho : op < 64) (h1' : op ≠ 1) (hs : sub < 2048) (x : Nums) (h0 : 0 ≤ x.i) (h1 : x.i ≤ 4294967295) : layAll ([116, 115, 105], [116, 115, 105], 0, 16) (op : Int) (sub : Int) x = (W op (dg x.s) (dg x.t) (x.i.toNat / 2048) (x.i.toNat / 64) (x.i.toNat ||| sub) : Int) := by
  have e : fixedOf [116, 115, 105] (op : Int) (sub : Int) (layFields ([116, 115, 105], [116, 115, 105], 0, 16) x) = (bits .or .u32 ((op : Int) * 67108864 % 4294967296) (bits .and .u32 (sub : Int) 63)) := by
    unfold fixedOf
    rw [if_neg (show ¬ ((op : Int) = 1) by omega)]
    rw [if_neg (by decide), if_neg (by decide), if_neg (by decide), if_neg (by decide)]
  unfold layAll
  dsimp only
  rw [e, fields_tsi x h0 h1, fix_op op ho, fix_sub sub hs]
  simp only [W_or, Nat.zero_or, Nat.or_zero]
theorem lay_ti (op sub : Nat) (ho : op < 64) (h1' : op ≠ 1) (hs : sub < 2048) (x : Nums) (h0 : 0 ≤ x.i) (h1 : x.i ≤ 4294967295) : layAll ([116, 105], [116, 105], 0, 16) (op : Int) (sub : Int) x = (W op 0 (dg x.t) (x.i.toNat / 2048) (x.i.toNat / 64) (x.i.toNat ||| sub) : Int) := by
  have e : fixedOf [116, 105] (op : Int) (sub : Int) (layFields ([116, 105], [116, 105], 0, 16) x) = (bits .or .u32 ((op : Int) * 67108864 % 4294967296) (bits .and .u32 (sub : Int) 63)) := by
    unfold fixedOf
    rw [if_neg (show ¬ ((op : Int) = 1) by omega)]
    rw [if_neg (by decide), if_neg (by decide), if_neg (by decide), if_neg (by decide)]
  unfold layAll
  dsimp only
  rw [e, fields_ti x h0 h1, fix_op op ho, fix_sub sub hs]
  simp only [W_or, Nat.zero_or, Nat.or_zero]
theorem lay_dsd (op sub : Nat) (ho : op < 64) (h1' : op ≠ 1) (hs : sub < 2048) (x : Nums) : layAll ([100, 115, 100], [100, 115], 0, 16) (op : Int) (sub : Int) x = (W op (dg x.s) (dg x.d) (dg x.d) 0 sub : Int) := by
  have e : fixedOf [100, 115, 100] (op : Int) (sub : Int) (layFields ([100, 115, 100], [100, 115], 0, 16) x) = (bits .or .u32 (bits .or .u32 ((op : Int) * 67108864 % 4294967296) (bits .and .u32 (sub : Int) 63)) (bits .and .u32 (layFields ([100, 115, 100], [100, 115], 0, 16) x / 2048) 31 * 65536 % 4294967296)) := by
    unfold fixedOf
    rw [if_neg (show ¬ ((op : Int) = 1) by omega)]
    rw [if_neg (by decide), if_neg (by decide), if_neg (by decide), if_pos rfl]
  unfold layAll
  dsimp only
  rw [e, fields_dsd x, fix_op op ho, fix_sub sub hs]
  rw [fix_dsd]
  simp only [W_or, Nat.zero_or, Nat.or_zero]
theorem lay_tsx (op sub : Nat) (ho : op < 64) (h1' : op ≠ 1) (hs : sub < 2048) (x : Nums) : layAll ([116, 115, 120], [116, 115, 100, 97], 0, 16) (op : Int) (sub : Int) x = (W op (dg x.s) (dg x.t) (dg x.d) (dg x.a) sub : Int) := by
  have e : fixedOf [116, 115, 120] (op : Int) (sub : Int) (layFields ([116, 115, 120], [116, 115, 100, 97], 0, 16) x) = (bits .or .u32 ((op : Int) * 67108864 % 4294967296) (bits .and .u32 (sub : Int) 63)) := by
    unfold fixedOf
    rw [if_neg (show ¬ ((op : Int) = 1) by omega)]
    rw [if_neg (by decide), if_neg (by decide), if_neg (by decide), if_neg (by decide)]
  unfold layAll
  dsimp only
  rw [e, fields_tsx x, fix_op op ho, fix_sub sub hs]
  simp only [W_or, Nat.zero_or, Nat.or_zero]
theorem lay_dt (op sub : Nat) (ho : op < 64) (h1' : op ≠ 1) (hs : sub < 2048) (x : Nums) : layAll ([100, 116], [100, 116], 0, 16) (op : Int) (sub : Int) x = (W op 0 (dg x.t) (dg x.d) (sub / 64) sub : Int) := by
  have e : fixedOf [100, 116] (op : Int) (sub : Int) (layFields ([100, 116], [100, 116], 0, 16) x) = (bits .or .u32 (bits .or .u32 ((op : Int) * 67108864 % 4294967296) (bits .and .u32 (sub : Int) 63)) ((sub : Int) / 64 * 64 % 4294967296)) := by
    unfold fixedOf
    rw [if_neg (show ¬ ((op : Int) = 1) by omega)]
    rw [if_pos rfl]
  unfold layAll
  dsimp only
  rw [e, fields_dt x, fix_op op ho, fix_sub sub hs]
  rw [fix_dt sub hs]
  simp only [W_or, Nat.zero_or, Nat.or_zero]
theorem lay_td (op sub : Nat) (ho : op < 64) (h1' : op ≠ 1) (hs : sub < 2048) (x : Nums) : layAll ([116, 100], [116, 100], 0, 16) (op : Int) (sub : Int) x = (W op 0 (dg x.t) (dg x.d) 0 sub : Int) := by
  have e : fixedOf [116, 100] (op : Int) (sub : Int) (layFields ([116, 100], [116, 100], 0, 16) x) = (bits .or .u32 ((op : Int) * 67108864 % 4294967296) (bits .and .u32 (sub : Int) 63)) := by
    unfold fixedOf
    rw [if_neg (show ¬ ((op : Int) = 1) by omega)]
    rw [if_neg (by decide), if_neg (by decide), if_neg (by decide), if_neg (by decide)]
  unfold layAll
  dsimp only
  rw [e, fields_td x, fix_op op ho, fix_sub sub hs]
  simp only [W_or, Nat.zero_or, Nat.or_zero]
theorem lay_tm (op sub : Nat) (ho : op < 64) (h1' : op ≠ 1) (hs : sub < 2048) (x : Nums) (h0 : 0 ≤ x.i) (h1 : x.i ≤ 4294967295) : layAll ([116, 109], [116, 115, 105], 0, 16) (op : Int) (sub : Int) x = (W op (dg x.s) (dg x.t) (x.i.toNat / 2048) (x.i.toNat / 64) (x.i.toNat ||| sub) : Int) := by
  have e : fixedOf [116, 109] (op : Int) (sub : Int) (layFields ([116, 109], [116, 115, 105], 0, 16) x) = (bits .or .u32 ((op : Int) * 67108864 % 4294967296) (bits .and .u32 (sub : Int) 63)) := by
    unfold fixedOf
    rw [if_neg (show ¬ ((op : Int) = 1) by omega)]
    rw [if_neg (by decide), if_neg (by decide), if_neg (by decide), if_neg (by decide)]
  unfold layAll
  dsimp only
  rw [e, fields_tm x h0 h1, fix_op op ho, fix_sub sub hs]
  simp only [W_or, Nat.zero_or, Nat.or_zero]
theorem lay_one (sub : Nat) (hs : sub < 32) (x : Nums) (h0 : 0 ≤ x.i) (h1 : x.i ≤ 4294967295) : layAll ([115, 111], [115, 105], 0, 16) 1 (sub : Int) x = (W 1 (dg x.s) sub (x.i.toNat / 2048) (x.i.toNat / 64) x.i.toNat : Int) := by
  have e : fixedOf [115, 111] 1 (sub : Int) (layFields ([115, 111], [115, 105], 0, 16) x) = bits .or .u32 67108864 ((sub : Int) * 65536 % 4294967296) := by
    unfold fixedOf
    rw [if_pos rfl]
  unfold layAll
  dsimp only
  rw [e, fields_so x h0 h1, fix_one sub hs, fix_c1]
  simp only [W_or, Nat.zero_or, Nat.or_zero]
end Go.Proofs.YtnddjndgfaefaaaDoor.F
end
