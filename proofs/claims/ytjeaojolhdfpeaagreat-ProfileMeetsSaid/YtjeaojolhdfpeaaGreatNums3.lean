/- Plain arithmetic: an unsigned number is unfolded into a signed one. -/
import Derived.Laws.BitsAllLaws
import Derived.Laws.Bits64
import Derived.RowKit
import Derived.Laws.Bits128
namespace Go.Proofs.YtjeaojolhdfpeaaGreat.Nums3
open Go.RowKit
set_option linter.unusedVariables false
set_option linter.unusedSimpArgs false

/-- The number with a sign that such a number stands for. -/
def unzig (x : Int) : Int := if x % 2 = 0 then x / 2 else -(x / 2) - 1
/-- int64(x>>1) ^ -int64(x&1). -/
theorem unzag (x : Int) (hx : 0 ≤ x ∧ x < 18446744073709551616) : bits .xor .i64 (x / 2) (wrap64 (-wrap64 (bits .and .u64 x 1))) = unzig x := by
  obtain ⟨n, rfl⟩ := Int.eq_ofNat_of_zero_le hx.1
  have h1 : bits .and .u64 (n : Int) 1 = ((n % 2 : Nat) : Int) := by
    have h := u64_and_nat n 1 (by omega) (by omega)
    rw [show ((1 : Nat) : Int) = 1 from rfl] at h
    rw [h, Nat.and_one_is_mod]
  rw [h1]
  unfold unzig
  rcases Nat.mod_two_eq_zero_or_one n with e | e
  · rw [e, if_pos (by omega)]
    have hz : wrap64 (-wrap64 ((0 : Nat) : Int)) = 0 := by decide
    rw [hz]
    show IntKind.i64.wrap ((BitVec.ofInt 64 ((n : Int) / 2) ^^^ BitVec.ofInt 64 0).toNat : Int) = _
    have h0 : BitVec.ofInt 64 0 = 0#64 := by decide
    rw [h0, BitVec.xor_zero, BitVec.toNat_ofInt, IntKind.wrap_i64]
    omega
  · rw [e, if_neg (by omega)]
    have hz : wrap64 (-wrap64 ((1 : Nat) : Int)) = -1 := by decide
    rw [hz]
    show IntKind.i64.wrap ((BitVec.ofInt 64 ((n : Int) / 2) ^^^ BitVec.ofInt 64 (-1)).toNat : Int) = _
    have h0 : BitVec.ofInt 64 (-1) = BitVec.allOnes 64 := by decide
    rw [h0, BitVec.xor_allOnes, BitVec.toNat_not, BitVec.toNat_ofInt, IntKind.wrap_i64]
    omega
end Go.Proofs.YtjeaojolhdfpeaaGreat.Nums3
