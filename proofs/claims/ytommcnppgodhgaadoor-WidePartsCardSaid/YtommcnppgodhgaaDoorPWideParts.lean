/- Package wide, words in parts: what each part is in plain numbers, byte by byte. Condition: numbers of their kinds. -/
import Derived.Test.YtommcnppgodhgaaDoorBits2
import Derived.Test.YtommcnppgodhgaaDoorFWideLoadLeft
import Derived.Test.YtommcnppgodhgaaDoorFWideLoadRight
import Derived.Test.YtommcnppgodhgaaDoorFWideStoreLeft
import Derived.Test.YtommcnppgodhgaaDoorFWideStoreRight
namespace Go.Proofs.YtommcnppgodhgaaDoor.F
set_option linter.unusedVariables false
open Go.RowKit Go.Proofs.YtommcnppgodhgaaDoorW.PrintWords Go.Proofs.YtommcnppgodhgaaDoorW.PrintLast Go.Proofs.YtommcnppgodhgaaDoorW.PrintMore
theorem shl_0 (x : Int) : shl .u32 x 0 = x * 1 % 4294967296 := by unfold shl; rw [u32w]; rfl
theorem shr_0 (x : Int) : shr .u32 x 0 = x / 1 := rfl
theorem shl_8 (x : Int) : shl .u32 x 8 = x * 256 % 4294967296 := by unfold shl; rw [u32w]; rfl
theorem shr_8 (x : Int) : shr .u32 x 8 = x / 256 := rfl
theorem shl_16 (x : Int) : shl .u32 x 16 = x * 65536 % 4294967296 := by unfold shl; rw [u32w]; rfl
theorem shr_16 (x : Int) : shr .u32 x 16 = x / 65536 := rfl
theorem shl_24 (x : Int) : shl .u32 x 24 = x * 16777216 % 4294967296 := by unfold shl; rw [u32w]; rfl
theorem shr_24 (x : Int) : shr .u32 x 24 = x / 16777216 := rfl
theorem shl_32 (x : Int) : shl .u32 x 32 = x * 4294967296 % 4294967296 := by unfold shl; rw [u32w]; rfl
theorem shr_32 (x : Int) : shr .u32 x 32 = x / 4294967296 := rfl
theorem below_0 : wide_below.f 0 = some 0 := by decide +kernel
theorem below_1 : wide_below.f 1 = some 255 := by decide +kernel
theorem below_2 : wide_below.f 2 = some 65535 := by decide +kernel
theorem below_3 : wide_below.f 3 = some 16777215 := by decide +kernel
theorem below_4 : wide_below.f 4 = some 4294967295 := by decide +kernel
theorem keep_0 (o : Int) (a0 : 0 ≤ o) (a1 : o ≤ 4294967295) : Go.bits .and .u32 o 0 = o % 1 := mask32 0 (by decide +kernel) a0 a1
theorem drop_0 (o : Int) (a0 : 0 ≤ o) (a1 : o ≤ 4294967295) : Go.bits .andNot .u32 o 0 = o - o % 1 := by
  have h := without32 (x := o) 0 0 (by decide +kernel) a0 a1
  rw [show ((2 : Int) ^ 0 - 1) * 2 ^ 0 = 0 by decide +kernel] at h
  rw [h]
  omega
theorem keep_1 (o : Int) (a0 : 0 ≤ o) (a1 : o ≤ 4294967295) : Go.bits .and .u32 o 255 = o % 256 := mask32 8 (by decide +kernel) a0 a1
theorem drop_1 (o : Int) (a0 : 0 ≤ o) (a1 : o ≤ 4294967295) : Go.bits .andNot .u32 o 255 = o - o % 256 := by
  have h := without32 (x := o) 8 0 (by decide +kernel) a0 a1
  rw [show ((2 : Int) ^ 8 - 1) * 2 ^ 0 = 255 by decide +kernel] at h
  rw [h]
  omega
theorem keep_2 (o : Int) (a0 : 0 ≤ o) (a1 : o ≤ 4294967295) : Go.bits .and .u32 o 65535 = o % 65536 := mask32 16 (by decide +kernel) a0 a1
theorem drop_2 (o : Int) (a0 : 0 ≤ o) (a1 : o ≤ 4294967295) : Go.bits .andNot .u32 o 65535 = o - o % 65536 := by
  have h := without32 (x := o) 16 0 (by decide +kernel) a0 a1
  rw [show ((2 : Int) ^ 16 - 1) * 2 ^ 0 = 65535 by decide +kernel] at h
  rw [h]
  omega
theorem keep_3 (o : Int) (a0 : 0 ≤ o) (a1 : o ≤ 4294967295) : Go.bits .and .u32 o 16777215 = o % 16777216 := mask32 24 (by decide +kernel) a0 a1
theorem drop_3 (o : Int) (a0 : 0 ≤ o) (a1 : o ≤ 4294967295) : Go.bits .andNot .u32 o 16777215 = o - o % 16777216 := by
  have h := without32 (x := o) 24 0 (by decide +kernel) a0 a1
  rw [show ((2 : Int) ^ 24 - 1) * 2 ^ 0 = 16777215 by decide +kernel] at h
  rw [h]
  omega
theorem keep_4 (o : Int) (a0 : 0 ≤ o) (a1 : o ≤ 4294967295) : Go.bits .and .u32 o 4294967295 = o % 4294967296 := mask32 32 (by decide +kernel) a0 a1
theorem drop_4 (o : Int) (a0 : 0 ≤ o) (a1 : o ≤ 4294967295) : Go.bits .andNot .u32 o 4294967295 = o - o % 4294967296 := by
  have h := without32 (x := o) 32 0 (by decide +kernel) a0 a1
  rw [show ((2 : Int) ^ 32 - 1) * 2 ^ 0 = 4294967295 by decide +kernel] at h
  rw [h]
  omega
theorem loadLeft_0 (o x : Int) (a0 : 0 ≤ o) (a1 : o ≤ 4294967295) (b0 : 0 ≤ x) (b1 : x ≤ 4294967295) : wide_LoadLeft.f o x 0 = some (x * 1 % 4294967296 + o % 1) := by
  unfold wide_LoadLeft.f
  rw [show Go.bits .and .i64 0 3 = 0 by decide +kernel, show wrap64 (8 * 0) = 0 by decide +kernel, if_pos (by decide +kernel), below_0, Option.bind_some, shl_0, keep_0 o a0 a1]
  rw [join32 0 (by omega) (by omega) (by omega) (by omega) (by omega) (by omega)]
theorem loadLeft_1 (o x : Int) (a0 : 0 ≤ o) (a1 : o ≤ 4294967295) (b0 : 0 ≤ x) (b1 : x ≤ 4294967295) : wide_LoadLeft.f o x 1 = some (x * 256 % 4294967296 + o % 256) := by
  unfold wide_LoadLeft.f
  rw [show Go.bits .and .i64 1 3 = 1 by decide +kernel, show wrap64 (8 * 1) = 8 by decide +kernel, if_pos (by decide +kernel), below_1, Option.bind_some, shl_8, keep_1 o a0 a1]
  rw [join32 8 (by omega) (by omega) (by omega) (by omega) (by omega) (by omega)]
theorem loadLeft_2 (o x : Int) (a0 : 0 ≤ o) (a1 : o ≤ 4294967295) (b0 : 0 ≤ x) (b1 : x ≤ 4294967295) : wide_LoadLeft.f o x 2 = some (x * 65536 % 4294967296 + o % 65536) := by
  unfold wide_LoadLeft.f
  rw [show Go.bits .and .i64 2 3 = 2 by decide +kernel, show wrap64 (8 * 2) = 16 by decide +kernel, if_pos (by decide +kernel), below_2, Option.bind_some, shl_16, keep_2 o a0 a1]
  rw [join32 16 (by omega) (by omega) (by omega) (by omega) (by omega) (by omega)]
theorem loadLeft_3 (o x : Int) (a0 : 0 ≤ o) (a1 : o ≤ 4294967295) (b0 : 0 ≤ x) (b1 : x ≤ 4294967295) : wide_LoadLeft.f o x 3 = some (x * 16777216 % 4294967296 + o % 16777216) := by
  unfold wide_LoadLeft.f
  rw [show Go.bits .and .i64 3 3 = 3 by decide +kernel, show wrap64 (8 * 3) = 24 by decide +kernel, if_pos (by decide +kernel), below_3, Option.bind_some, shl_24, keep_3 o a0 a1]
  rw [join32 24 (by omega) (by omega) (by omega) (by omega) (by omega) (by omega)]
theorem loadRight_0 (o x : Int) (a0 : 0 ≤ o) (a1 : o ≤ 4294967295) (b0 : 0 ≤ x) (b1 : x ≤ 4294967295) : wide_LoadRight.f o x 0 = some (o - o % 256 + x / 16777216) := by
  unfold wide_LoadRight.f
  rw [show wrap64 (Go.bits .and .i64 0 3 + 1) = 1 by decide +kernel, below_1, Option.bind_some, show wrap64 (32 - wrap64 (8 * 1)) = 24 by decide +kernel, if_pos (by decide +kernel), drop_1 o a0 a1, shr_24]
  rw [join32 8 (by omega) (by omega) (by omega) (by omega) (by omega) (by omega)]
theorem loadRight_1 (o x : Int) (a0 : 0 ≤ o) (a1 : o ≤ 4294967295) (b0 : 0 ≤ x) (b1 : x ≤ 4294967295) : wide_LoadRight.f o x 1 = some (o - o % 65536 + x / 65536) := by
  unfold wide_LoadRight.f
  rw [show wrap64 (Go.bits .and .i64 1 3 + 1) = 2 by decide +kernel, below_2, Option.bind_some, show wrap64 (32 - wrap64 (8 * 2)) = 16 by decide +kernel, if_pos (by decide +kernel), drop_2 o a0 a1, shr_16]
  rw [join32 16 (by omega) (by omega) (by omega) (by omega) (by omega) (by omega)]
theorem loadRight_2 (o x : Int) (a0 : 0 ≤ o) (a1 : o ≤ 4294967295) (b0 : 0 ≤ x) (b1 : x ≤ 4294967295) : wide_LoadRight.f o x 2 = some (o - o % 16777216 + x / 256) := by
  unfold wide_LoadRight.f
  rw [show wrap64 (Go.bits .and .i64 2 3 + 1) = 3 by decide +kernel, below_3, Option.bind_some, show wrap64 (32 - wrap64 (8 * 3)) = 8 by decide +kernel, if_pos (by decide +kernel), drop_3 o a0 a1, shr_8]
  rw [join32 24 (by omega) (by omega) (by omega) (by omega) (by omega) (by omega)]
theorem loadRight_3 (o x : Int) (a0 : 0 ≤ o) (a1 : o ≤ 4294967295) (b0 : 0 ≤ x) (b1 : x ≤ 4294967295) : wide_LoadRight.f o x 3 = some (o - o % 4294967296 + x / 1) := by
  unfold wide_LoadRight.f
  rw [show wrap64 (Go.bits .and .i64 3 3 + 1) = 4 by decide +kernel, below_4, Option.bind_some, show wrap64 (32 - wrap64 (8 * 4)) = 0 by decide +kernel, if_pos (by decide +kernel), drop_4 o a0 a1, shr_0]
  rw [join32 32 (by omega) (by omega) (by omega) (by omega) (by omega) (by omega)]
theorem loadRight_4 (o x : Int) (a0 : 0 ≤ o) (a1 : o ≤ 4294967295) (b0 : 0 ≤ x) (b1 : x ≤ 4294967295) : wide_LoadRight.f o x 4 = some (o - o % 256 + x / 16777216) := by
  unfold wide_LoadRight.f
  rw [show wrap64 (Go.bits .and .i64 4 3 + 1) = 1 by decide +kernel, below_1, Option.bind_some, show wrap64 (32 - wrap64 (8 * 1)) = 24 by decide +kernel, if_pos (by decide +kernel), drop_1 o a0 a1, shr_24]
  rw [join32 8 (by omega) (by omega) (by omega) (by omega) (by omega) (by omega)]
theorem loadRight_5 (o x : Int) (a0 : 0 ≤ o) (a1 : o ≤ 4294967295) (b0 : 0 ≤ x) (b1 : x ≤ 4294967295) : wide_LoadRight.f o x 5 = some (o - o % 65536 + x / 65536) := by
  unfold wide_LoadRight.f
  rw [show wrap64 (Go.bits .and .i64 5 3 + 1) = 2 by decide +kernel, below_2, Option.bind_some, show wrap64 (32 - wrap64 (8 * 2)) = 16 by decide +kernel, if_pos (by decide +kernel), drop_2 o a0 a1, shr_16]
  rw [join32 16 (by omega) (by omega) (by omega) (by omega) (by omega) (by omega)]
theorem loadRight_6 (o x : Int) (a0 : 0 ≤ o) (a1 : o ≤ 4294967295) (b0 : 0 ≤ x) (b1 : x ≤ 4294967295) : wide_LoadRight.f o x 6 = some (o - o % 16777216 + x / 256) := by
  unfold wide_LoadRight.f
  rw [show wrap64 (Go.bits .and .i64 6 3 + 1) = 3 by decide +kernel, below_3, Option.bind_some, show wrap64 (32 - wrap64 (8 * 3)) = 8 by decide +kernel, if_pos (by decide +kernel), drop_3 o a0 a1, shr_8]
  rw [join32 24 (by omega) (by omega) (by omega) (by omega) (by omega) (by omega)]
theorem storeLeft_0 (o x : Int) (a0 : 0 ≤ o) (a1 : o ≤ 4294967295) (b0 : 0 ≤ x) (b1 : x ≤ 4294967295) : wide_StoreLeft.f o x 0 = some (o - o % 4294967296 + x / 1) := by
  unfold wide_StoreLeft.f
  rw [show wrap64 (4 - Go.bits .and .i64 0 3) = 4 by decide +kernel, below_4, Option.bind_some, show wrap64 (32 - wrap64 (8 * 4)) = 0 by decide +kernel, if_pos (by decide +kernel), drop_4 o a0 a1, shr_0]
  rw [join32 32 (by omega) (by omega) (by omega) (by omega) (by omega) (by omega)]
theorem storeLeft_1 (o x : Int) (a0 : 0 ≤ o) (a1 : o ≤ 4294967295) (b0 : 0 ≤ x) (b1 : x ≤ 4294967295) : wide_StoreLeft.f o x 1 = some (o - o % 16777216 + x / 256) := by
  unfold wide_StoreLeft.f
  rw [show wrap64 (4 - Go.bits .and .i64 1 3) = 3 by decide +kernel, below_3, Option.bind_some, show wrap64 (32 - wrap64 (8 * 3)) = 8 by decide +kernel, if_pos (by decide +kernel), drop_3 o a0 a1, shr_8]
  rw [join32 24 (by omega) (by omega) (by omega) (by omega) (by omega) (by omega)]
theorem storeLeft_2 (o x : Int) (a0 : 0 ≤ o) (a1 : o ≤ 4294967295) (b0 : 0 ≤ x) (b1 : x ≤ 4294967295) : wide_StoreLeft.f o x 2 = some (o - o % 65536 + x / 65536) := by
  unfold wide_StoreLeft.f
  rw [show wrap64 (4 - Go.bits .and .i64 2 3) = 2 by decide +kernel, below_2, Option.bind_some, show wrap64 (32 - wrap64 (8 * 2)) = 16 by decide +kernel, if_pos (by decide +kernel), drop_2 o a0 a1, shr_16]
  rw [join32 16 (by omega) (by omega) (by omega) (by omega) (by omega) (by omega)]
theorem storeLeft_3 (o x : Int) (a0 : 0 ≤ o) (a1 : o ≤ 4294967295) (b0 : 0 ≤ x) (b1 : x ≤ 4294967295) : wide_StoreLeft.f o x 3 = some (o - o % 256 + x / 16777216) := by
  unfold wide_StoreLeft.f
  rw [show wrap64 (4 - Go.bits .and .i64 3 3) = 1 by decide +kernel, below_1, Option.bind_some, show wrap64 (32 - wrap64 (8 * 1)) = 24 by decide +kernel, if_pos (by decide +kernel), drop_1 o a0 a1, shr_24]
  rw [join32 8 (by omega) (by omega) (by omega) (by omega) (by omega) (by omega)]
theorem storeRight_0 (o x : Int) (a0 : 0 ≤ o) (a1 : o ≤ 4294967295) (b0 : 0 ≤ x) (b1 : x ≤ 4294967295) : wide_StoreRight.f o x 0 = some (x * 16777216 % 4294967296 + o % 16777216) := by
  unfold wide_StoreRight.f
  rw [show wrap64 (3 - Go.bits .and .i64 0 3) = 3 by decide +kernel, show wrap64 (8 * 3) = 24 by decide +kernel, if_pos (by decide +kernel), below_3, Option.bind_some, shl_24, keep_3 o a0 a1]
  rw [join32 24 (by omega) (by omega) (by omega) (by omega) (by omega) (by omega)]
theorem storeRight_1 (o x : Int) (a0 : 0 ≤ o) (a1 : o ≤ 4294967295) (b0 : 0 ≤ x) (b1 : x ≤ 4294967295) : wide_StoreRight.f o x 1 = some (x * 65536 % 4294967296 + o % 65536) := by
  unfold wide_StoreRight.f
  rw [show wrap64 (3 - Go.bits .and .i64 1 3) = 2 by decide +kernel, show wrap64 (8 * 2) = 16 by decide +kernel, if_pos (by decide +kernel), below_2, Option.bind_some, shl_16, keep_2 o a0 a1]
  rw [join32 16 (by omega) (by omega) (by omega) (by omega) (by omega) (by omega)]
theorem storeRight_2 (o x : Int) (a0 : 0 ≤ o) (a1 : o ≤ 4294967295) (b0 : 0 ≤ x) (b1 : x ≤ 4294967295) : wide_StoreRight.f o x 2 = some (x * 256 % 4294967296 + o % 256) := by
  unfold wide_StoreRight.f
  rw [show wrap64 (3 - Go.bits .and .i64 2 3) = 1 by decide +kernel, show wrap64 (8 * 1) = 8 by decide +kernel, if_pos (by decide +kernel), below_1, Option.bind_some, shl_8, keep_1 o a0 a1]
  rw [join32 8 (by omega) (by omega) (by omega) (by omega) (by omega) (by omega)]
theorem storeRight_3 (o x : Int) (a0 : 0 ≤ o) (a1 : o ≤ 4294967295) (b0 : 0 ≤ x) (b1 : x ≤ 4294967295) : wide_StoreRight.f o x 3 = some (x * 1 % 4294967296 + o % 1) := by
  unfold wide_StoreRight.f
  rw [show wrap64 (3 - Go.bits .and .i64 3 3) = 0 by decide +kernel, show wrap64 (8 * 0) = 0 by decide +kernel, if_pos (by decide +kernel), below_0, Option.bind_some, shl_0, keep_0 o a0 a1]
  rw [join32 0 (by omega) (by omega) (by omega) (by omega) (by omega) (by omega)]
theorem storeRight_4 (o x : Int) (a0 : 0 ≤ o) (a1 : o ≤ 4294967295) (b0 : 0 ≤ x) (b1 : x ≤ 4294967295) : wide_StoreRight.f o x 4 = some (x * 16777216 % 4294967296 + o % 16777216) := by
  unfold wide_StoreRight.f
  rw [show wrap64 (3 - Go.bits .and .i64 4 3) = 3 by decide +kernel, show wrap64 (8 * 3) = 24 by decide +kernel, if_pos (by decide +kernel), below_3, Option.bind_some, shl_24, keep_3 o a0 a1]
  rw [join32 24 (by omega) (by omega) (by omega) (by omega) (by omega) (by omega)]
theorem storeRight_5 (o x : Int) (a0 : 0 ≤ o) (a1 : o ≤ 4294967295) (b0 : 0 ≤ x) (b1 : x ≤ 4294967295) : wide_StoreRight.f o x 5 = some (x * 65536 % 4294967296 + o % 65536) := by
  unfold wide_StoreRight.f
  rw [show wrap64 (3 - Go.bits .and .i64 5 3) = 2 by decide +kernel, show wrap64 (8 * 2) = 16 by decide +kernel, if_pos (by decide +kernel), below_2, Option.bind_some, shl_16, keep_2 o a0 a1]
  rw [join32 16 (by omega) (by omega) (by omega) (by omega) (by omega) (by omega)]
theorem storeRight_6 (o x : Int) (a0 : 0 ≤ o) (a1 : o ≤ 4294967295) (b0 : 0 ≤ x) (b1 : x ≤ 4294967295) : wide_StoreRight.f o x 6 = some (x * 256 % 4294967296 + o % 256) := by
  unfold wide_StoreRight.f
  rw [show wrap64 (3 - Go.bits .and .i64 6 3) = 1 by decide +kernel, show wrap64 (8 * 1) = 8 by decide +kernel, if_pos (by decide +kernel), below_1, Option.bind_some, shl_8, keep_1 o a0 a1]
  rw [join32 8 (by omega) (by omega) (by omega) (by omega) (by omega) (by omega)]
end Go.Proofs.YtommcnppgodhgaaDoor.F
