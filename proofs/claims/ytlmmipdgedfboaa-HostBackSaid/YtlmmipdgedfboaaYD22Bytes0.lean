import Derived.Test.YtlmmipdgedfboaaZF0
import Derived.Test.YtlmmipdgedfboaaYA17
section
set_option linter.unusedVariables false
namespace Go.Proofs.Ytlmmipdgedfboaa.F
theorem word_bytes {w : Nat} (h : w < 256 ^ 8) : leN 8 (byteAt w) = w := by
  have := leN_bytes 8 0 w
  simp only [Nat.zero_add, Nat.pow_zero, Nat.div_one] at this
  rw [this, Nat.mod_eq_of_lt h]
theorem word_ext {w x : Nat} (hw : w < 256 ^ 8) (hx : x < 256 ^ 8) (h : ∀ k, k < 8 → byteAt w k = byteAt x k) : w = x := by
  rw [← word_bytes hw, ← word_bytes hx]
  exact leN_congr h
end Go.Proofs.Ytlmmipdgedfboaa.F
end
