/- The pure statement of the law WideUnaligned, proved. No condition. -/
import Derived.Test.YtommcnppgodhgaaDoorQWideUnaligned
import Derived.Test.YtommcnppgodhgaaDoorPWideParts
namespace Go.Proofs.YtommcnppgodhgaaDoor.F
open Go.RowKit Go.Proofs.YtommcnppgodhgaaDoorW.PrintWords Go.Proofs.YtommcnppgodhgaaDoorW.PrintLast Go.Proofs.YtommcnppgodhgaaDoorW.PrintMore
set_option linter.unusedVariables false
theorem unaligned_awake : ferrylaw10_awake.f = some true := by decide +kernel
theorem both64 (h l : Int) (a0 : 0 ≤ h) (a1 : h ≤ 4294967295) (b0 : 0 ≤ l) (b1 : l ≤ 4294967295) : Go.bits .or .u64 (IntKind.u64.wrap (IntKind.u64.wrap h * 4294967296)) (IntKind.u64.wrap l) = h * 4294967296 + l := by
  rw [u64w, u64w, u64w, Int.emod_eq_of_lt a0 (by omega), Int.emod_eq_of_lt b0 (by omega), Int.emod_eq_of_lt (by omega) (by omega)]
  exact join64 32 (by omega) (by omega) (by omega) b0 (by omega) (by omega)
theorem put64_1 (n r : Int) (a0 : 0 ≤ n) (a1 : n ≤ 18446744073709551615) (b0 : 0 ≤ r) (b1 : r ≤ 4294967295) : Go.bits .or .u64 (Go.bits .andNot .u64 n (shl .u64 4294967295 24)) (shl .u64 (IntKind.u64.wrap r) 24) = n - n / 16777216 % 4294967296 * 16777216 + r * 16777216 := by
  have e1 : shl .u64 4294967295 24 = (2 ^ 32 - 1) * 2 ^ 24 := by decide +kernel
  have e2 : shl .u64 (IntKind.u64.wrap r) 24 = r * 16777216 := by
    unfold shl
    rw [u64w, u64w, Int.emod_eq_of_lt b0 (by omega)]
    show r * 16777216 % 18446744073709551616 = _
    omega
  rw [e1, e2, without64 32 24 (by decide +kernel) a0 a1]
  have e3 : n - n / 2 ^ 24 % 2 ^ 32 * 2 ^ 24 = Go.bits .or .u64 (n / 72057594037927936 * 72057594037927936) (n % 16777216) := by
    rw [join64 56 (by omega) (by omega) (by omega) (by omega) (by omega) (by omega)]
    omega
  rw [e3, bits_or_assoc64 (by omega) (by omega) (by omega) (by omega) (by omega) (by omega), bits_or_comm .u64 (n % 16777216), join64 (x := r * 16777216) (y := n % 16777216) 24 (by omega) (by omega) (by omega) (by omega) (by omega) (by omega), join64 56 (by omega) (by omega) (by omega) (by omega) (by omega) (by omega)]
  omega
theorem put64_2 (n r : Int) (a0 : 0 ≤ n) (a1 : n ≤ 18446744073709551615) (b0 : 0 ≤ r) (b1 : r ≤ 4294967295) : Go.bits .or .u64 (Go.bits .andNot .u64 n (shl .u64 4294967295 16)) (shl .u64 (IntKind.u64.wrap r) 16) = n - n / 65536 % 4294967296 * 65536 + r * 65536 := by
  have e1 : shl .u64 4294967295 16 = (2 ^ 32 - 1) * 2 ^ 16 := by decide +kernel
  have e2 : shl .u64 (IntKind.u64.wrap r) 16 = r * 65536 := by
    unfold shl
    rw [u64w, u64w, Int.emod_eq_of_lt b0 (by omega)]
    show r * 65536 % 18446744073709551616 = _
    omega
  rw [e1, e2, without64 32 16 (by decide +kernel) a0 a1]
  have e3 : n - n / 2 ^ 16 % 2 ^ 32 * 2 ^ 16 = Go.bits .or .u64 (n / 281474976710656 * 281474976710656) (n % 65536) := by
    rw [join64 48 (by omega) (by omega) (by omega) (by omega) (by omega) (by omega)]
    omega
  rw [e3, bits_or_assoc64 (by omega) (by omega) (by omega) (by omega) (by omega) (by omega), bits_or_comm .u64 (n % 65536), join64 (x := r * 65536) (y := n % 65536) 16 (by omega) (by omega) (by omega) (by omega) (by omega) (by omega), join64 48 (by omega) (by omega) (by omega) (by omega) (by omega) (by omega)]
  omega
theorem put64_3 (n r : Int) (a0 : 0 ≤ n) (a1 : n ≤ 18446744073709551615) (b0 : 0 ≤ r) (b1 : r ≤ 4294967295) : Go.bits .or .u64 (Go.bits .andNot .u64 n (shl .u64 4294967295 8)) (shl .u64 (IntKind.u64.wrap r) 8) = n - n / 256 % 4294967296 * 256 + r * 256 := by
  have e1 : shl .u64 4294967295 8 = (2 ^ 32 - 1) * 2 ^ 8 := by decide +kernel
  have e2 : shl .u64 (IntKind.u64.wrap r) 8 = r * 256 := by
    unfold shl
    rw [u64w, u64w, Int.emod_eq_of_lt b0 (by omega)]
    show r * 256 % 18446744073709551616 = _
    omega
  rw [e1, e2, without64 32 8 (by decide +kernel) a0 a1]
  have e3 : n - n / 2 ^ 8 % 2 ^ 32 * 2 ^ 8 = Go.bits .or .u64 (n / 1099511627776 * 1099511627776) (n % 256) := by
    rw [join64 40 (by omega) (by omega) (by omega) (by omega) (by omega) (by omega)]
    omega
  rw [e3, bits_or_assoc64 (by omega) (by omega) (by omega) (by omega) (by omega) (by omega), bits_or_comm .u64 (n % 256), join64 (x := r * 256) (y := n % 256) 8 (by omega) (by omega) (by omega) (by omega) (by omega) (by omega), join64 40 (by omega) (by omega) (by omega) (by omega) (by omega) (by omega)]
  omega
theorem shl64_0 (x : Int) : shl .u64 x 0 = x * 1 % 18446744073709551616 := by unfold shl; rw [u64w]; rfl
theorem shl64_8 (x : Int) : shl .u64 x 8 = x * 256 % 18446744073709551616 := by unfold shl; rw [u64w]; rfl
theorem shl64_16 (x : Int) : shl .u64 x 16 = x * 65536 % 18446744073709551616 := by unfold shl; rw [u64w]; rfl
theorem shl64_24 (x : Int) : shl .u64 x 24 = x * 16777216 % 18446744073709551616 := by unfold shl; rw [u64w]; rfl
theorem un_0 (a b r : Int) (a0 : 0 ≤ a) (a1 : a ≤ 4294967295) (b0 : 0 ≤ b) (b1 : b ≤ 4294967295) (r0 : 0 ≤ r) (r1 : r ≤ 4294967295) :
    ((wide_LoadLeft.f r a 0).bind fun t => ferrylaw10_WideUnaligned.j0 1 a b r 0 (a * 4294967296 + b) ((shl .u64 (a * 4294967296 + b) 0) / 4294967296 % 4294967296) t a 3) = some true := by
  rw [loadLeft_0 r a r0 r1 a0 a1, Option.bind_some]
  simp only [ferrylaw10_WideUnaligned.j0]
  rw [loadRight_3 _ a (by omega) (by omega) a0 a1, Option.bind_some, shl64_0, if_pos (by omega), storeLeft_0 a r a0 a1 r0 r1, Option.bind_some]
  rw [if_pos trivial, if_pos (by omega), storeRight_3 _ r (by omega) (by omega) r0 r1, Option.bind_some, if_pos (by omega), unaligned_awake]
  rfl
theorem un_1 (a b r : Int) (a0 : 0 ≤ a) (a1 : a ≤ 4294967295) (b0 : 0 ≤ b) (b1 : b ≤ 4294967295) (r0 : 0 ≤ r) (r1 : r ≤ 4294967295) :
    ((wide_LoadLeft.f r a 1).bind fun t => ferrylaw10_WideUnaligned.j0 1 a b r 1 (a * 4294967296 + b) ((shl .u64 (a * 4294967296 + b) 8) / 4294967296 % 4294967296) t b 4) = some true := by
  rw [loadLeft_1 r a r0 r1 a0 a1, Option.bind_some]
  simp only [ferrylaw10_WideUnaligned.j0]
  rw [loadRight_4 _ b (by omega) (by omega) b0 b1, Option.bind_some, shl64_8, if_pos (by omega), storeLeft_1 a r a0 a1 r0 r1, Option.bind_some]
  rw [if_neg (by decide +kernel), storeRight_4 b r b0 b1 r0 r1, Option.bind_some, show IntKind.u64.wrap (32 - IntKind.u64.wrap (8 * IntKind.u64.wrap 1)) = 24 by decide +kernel, if_pos (by decide +kernel), put64_1 _ r (by omega) (by omega) r0 r1, both64 _ _ (by omega) (by omega) (by omega) (by omega), if_pos (by omega), unaligned_awake]
  rfl
theorem un_2 (a b r : Int) (a0 : 0 ≤ a) (a1 : a ≤ 4294967295) (b0 : 0 ≤ b) (b1 : b ≤ 4294967295) (r0 : 0 ≤ r) (r1 : r ≤ 4294967295) :
    ((wide_LoadLeft.f r a 2).bind fun t => ferrylaw10_WideUnaligned.j0 1 a b r 2 (a * 4294967296 + b) ((shl .u64 (a * 4294967296 + b) 16) / 4294967296 % 4294967296) t b 5) = some true := by
  rw [loadLeft_2 r a r0 r1 a0 a1, Option.bind_some]
  simp only [ferrylaw10_WideUnaligned.j0]
  rw [loadRight_5 _ b (by omega) (by omega) b0 b1, Option.bind_some, shl64_16, if_pos (by omega), storeLeft_2 a r a0 a1 r0 r1, Option.bind_some]
  rw [if_neg (by decide +kernel), storeRight_5 b r b0 b1 r0 r1, Option.bind_some, show IntKind.u64.wrap (32 - IntKind.u64.wrap (8 * IntKind.u64.wrap 2)) = 16 by decide +kernel, if_pos (by decide +kernel), put64_2 _ r (by omega) (by omega) r0 r1, both64 _ _ (by omega) (by omega) (by omega) (by omega), if_pos (by omega), unaligned_awake]
  rfl
theorem un_3 (a b r : Int) (a0 : 0 ≤ a) (a1 : a ≤ 4294967295) (b0 : 0 ≤ b) (b1 : b ≤ 4294967295) (r0 : 0 ≤ r) (r1 : r ≤ 4294967295) :
    ((wide_LoadLeft.f r a 3).bind fun t => ferrylaw10_WideUnaligned.j0 1 a b r 3 (a * 4294967296 + b) ((shl .u64 (a * 4294967296 + b) 24) / 4294967296 % 4294967296) t b 6) = some true := by
  rw [loadLeft_3 r a r0 r1 a0 a1, Option.bind_some]
  simp only [ferrylaw10_WideUnaligned.j0]
  rw [loadRight_6 _ b (by omega) (by omega) b0 b1, Option.bind_some, shl64_24, if_pos (by omega), storeLeft_3 a r a0 a1 r0 r1, Option.bind_some]
  rw [if_neg (by decide +kernel), storeRight_6 b r b0 b1 r0 r1, Option.bind_some, show IntKind.u64.wrap (32 - IntKind.u64.wrap (8 * IntKind.u64.wrap 3)) = 8 by decide +kernel, if_pos (by decide +kernel), put64_3 _ r (by omega) (by omega) r0 r1, both64 _ _ (by omega) (by omega) (by omega) (by omega), if_pos (by omega), unaligned_awake]
  rfl
theorem WideUnaligned_pure : ferrylaw10_WideUnaligned.Pure := by
  intro a b r at_ h0 h1 h2 h3
  refine ⟨1, ?_⟩
  unfold ferrylaw10_WideUnaligned.f
  rw [both64 a b h0.1 h0.2 h1.1 h1.2]
  have e : wrap64 (Int.tmod at_ 4) = at_ % 4 := by
    rw [Int.tmod_eq_emod_of_nonneg h3.1]
    exact w64_id (by omega) (by omega)
  rw [e]
  have hk : at_ % 4 = 0 ∨ at_ % 4 = 1 ∨ at_ % 4 = 2 ∨ at_ % 4 = 3 := by omega
  rcases hk with hk | hk | hk | hk
  · rw [hk, show IntKind.u64.wrap (8 * IntKind.u64.wrap 0) = 0 by decide +kernel, if_pos (by decide +kernel), show wrap64 (0 + 3) = 3 by decide +kernel]
    simp only [if_true]
    exact un_0 a b r h0.1 h0.2 h1.1 h1.2 h2.1 h2.2
  · rw [hk, show IntKind.u64.wrap (8 * IntKind.u64.wrap 1) = 8 by decide +kernel, if_pos (by decide +kernel), show wrap64 (1 + 3) = 4 by decide +kernel]
    simp only [show ¬ ((1 : Int) = 0) by decide +kernel, if_false]
    exact un_1 a b r h0.1 h0.2 h1.1 h1.2 h2.1 h2.2
  · rw [hk, show IntKind.u64.wrap (8 * IntKind.u64.wrap 2) = 16 by decide +kernel, if_pos (by decide +kernel), show wrap64 (2 + 3) = 5 by decide +kernel]
    simp only [show ¬ ((2 : Int) = 0) by decide +kernel, if_false]
    exact un_2 a b r h0.1 h0.2 h1.1 h1.2 h2.1 h2.2
  · rw [hk, show IntKind.u64.wrap (8 * IntKind.u64.wrap 3) = 24 by decide +kernel, if_pos (by decide +kernel), show wrap64 (3 + 3) = 6 by decide +kernel]
    simp only [show ¬ ((3 : Int) = 0) by decide +kernel, if_false]
    exact un_3 a b r h0.1 h0.2 h1.1 h1.2 h2.1 h2.2
end Go.Proofs.YtommcnppgodhgaaDoor.F
