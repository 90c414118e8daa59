/- Plain arithmetic: the next digit to the base 128 is laid ahead of what was read. -/
import Derived.Laws.BitsAllLaws
import Derived.Laws.Bits64
import Derived.RowKit
namespace Go.Proofs.YtjeaojolhdfpeaaGreat.Nums2
open Go.RowKit
set_option linter.unusedVariables false
set_option linter.unusedSimpArgs false

/-- The seven low bits of a byte. -/
theorem low7 (c : Int) (hc : 0 ≤ c ∧ c < 256) : bits .and .u8 c 127 = c % 128 := by
  obtain ⟨n, rfl⟩ := Int.eq_ofNat_of_zero_le hc.1
  have h := u8_and_nat n 127 (by omega) (by omega)
  rw [show ((127 : Nat) : Int) = 127 from rfl] at h
  rw [h]
  have h2 : n &&& 127 = n % 128 := Nat.and_two_pow_sub_one_eq_mod n 7
  rw [h2]
  omega
/-- x |= (c & 127) << (7 * i): the next digit to the base 128. -/
theorem or_step (X c : Int) (i : Nat) (h0 : 0 ≤ X) (h1 : X < 128 ^ i) (hc : 0 ≤ c ∧ c < 256) (hi : i ≤ 9) (h9 : i = 9 → c = 1) :
    bits .or .u64 X (IntKind.u64.wrap (IntKind.u64.wrap (bits .and .u8 c 127) * 2 ^ (7 * i))) = X + (c % 128) * 128 ^ i := by
  rw [low7 c hc]
  obtain ⟨x, rfl⟩ := Int.eq_ofNat_of_zero_le h0
  obtain ⟨n, hn⟩ : ∃ n : Nat, (n : Int) = c % 128 := ⟨(c % 128).toNat, by omega⟩
  have hn7 : n < 128 := by omega
  have hp : (2 : Int) ^ (7 * i) = 128 ^ i := by rw [Int.pow_mul]; rfl
  have hx : x < 128 ^ i := by have := h1; exact_mod_cast this
  have hlt : n * 128 ^ i < 18446744073709551616 := by
    by_cases e : i = 9
    · subst e
      have : n = 1 := by have := h9 rfl; omega
      subst this
      decide
    · have h2 : 128 ^ i ≤ 128 ^ 8 := Nat.pow_le_pow_right (by decide) (by omega)
      calc n * 128 ^ i ≤ 127 * 128 ^ 8 := Nat.mul_le_mul (by omega) h2
        _ < 18446744073709551616 := by decide
  have hxl : x < 18446744073709551616 := by
    have h2 : 128 ^ i ≤ 128 ^ 9 := Nat.pow_le_pow_right (by decide) hi
    have h3 : (128 : Nat) ^ 9 < 18446744073709551616 := by decide
    omega
  rw [← hn, hp, IntKind.wrap_u64, IntKind.wrap_u64]
  have e1 : ((n : Int) % 18446744073709551616) = (n : Int) := by omega
  have e2 : ((n : Int) * 128 ^ i) % 18446744073709551616 = ((n * 128 ^ i : Nat) : Int) := by
    have : ((n * 128 ^ i : Nat) : Int) = (n : Int) * 128 ^ i := by push_cast; rfl
    rw [← this]
    omega
  rw [e1, e2, u64_or_nat _ _ hxl hlt]
  have e3 : x ||| n * 128 ^ i = x + n * 128 ^ i := by
    have h2 : (128 : Nat) ^ i = 2 ^ (7 * i) := by rw [Nat.pow_mul]
    rw [h2] at hx ⊢
    rw [Nat.or_comm, Nat.mul_comm n, ← Nat.two_pow_add_eq_or_of_lt hx]
    omega
  rw [e3]
  push_cast
  rfl
end Go.Proofs.YtjeaojolhdfpeaaGreat.Nums2
