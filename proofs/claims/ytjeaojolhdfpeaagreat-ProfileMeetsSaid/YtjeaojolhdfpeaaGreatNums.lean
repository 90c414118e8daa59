/- Plain arithmetic: how a signed number is folded into an unsigned one. -/
import Derived.Laws.BitsAllLaws
import Derived.Laws.Bits64
import Derived.RowKit
namespace Go.Proofs.YtjeaojolhdfpeaaGreat.Nums
open Go.RowKit
set_option linter.unusedVariables false
set_option linter.unusedSimpArgs false

theorem xor_ones (a : Nat) (ha : a < 18446744073709551616) : a ^^^ 18446744073709551615 = 18446744073709551615 - a := by
  have h : (BitVec.ofNat 64 a ^^^ BitVec.allOnes 64).toNat = 18446744073709551615 - a := by
    rw [BitVec.xor_allOnes, BitVec.toNat_not, BitVec.toNat_ofNat, Nat.mod_eq_of_lt (by omega)]
  rw [BitVec.toNat_xor, BitVec.toNat_ofNat, BitVec.toNat_allOnes, Nat.mod_eq_of_lt (by omega)] at h
  exact h
/-- (x << 1) ^ (x >> 63). -/
theorem zig (x : Int) (hx : -9223372036854775808 ≤ x ∧ x ≤ 9223372036854775807) :
    bits .xor .u64 (IntKind.u64.wrap (IntKind.u64.wrap x * 2)) (IntKind.u64.wrap (x / 9223372036854775808)) = if x ≥ 0 then 2 * x else -2 * x - 1 := by
  rw [IntKind.wrap_u64, IntKind.wrap_u64, IntKind.wrap_u64]
  by_cases h : x ≥ 0
  · rw [if_pos h]
    obtain ⟨a, rfl⟩ := Int.eq_ofNat_of_zero_le h
    have e1 : ((a : Int) % 18446744073709551616 * 2) % 18446744073709551616 = ((2 * a : Nat) : Int) := by omega
    have e2 : ((a : Int) / 9223372036854775808) % 18446744073709551616 = ((0 : Nat) : Int) := by omega
    rw [e1, e2, u64_xor_nat _ _ (by omega) (by omega), Nat.xor_zero]
    omega
  · rw [if_neg h]
    obtain ⟨a, ha⟩ : ∃ a : Nat, (a : Int) = 2 * x + 18446744073709551616 := ⟨(2 * x + 18446744073709551616).toNat, by omega⟩
    have e1 : (x % 18446744073709551616 * 2) % 18446744073709551616 = (a : Int) := by omega
    have e2 : (x / 9223372036854775808) % 18446744073709551616 = ((18446744073709551615 : Nat) : Int) := by omega
    rw [e1, e2, u64_xor_nat _ _ (by omega) (by omega), xor_ones a (by omega)]
    omega
end Go.Proofs.YtjeaojolhdfpeaaGreat.Nums
