/- The reference's number comes to 'num'. -/
import Derived.Test.YtcgajjaaiablkaaReader
import Derived.Test.YtcgajjaaiablkaaWMore
import Derived.Test.YtcgajjaaiablkaaPRelaySealedx0
import Derived.Test.YtcgajjaaiablkaaPRelaySealedx1
import Derived.Test.YtcgajjaaiablkaaPRelaySealedx3
namespace Go.Proofs.Ytcgajjaaiablkaa.NumRef
open Go.RowKit Go.Proofs.YtcgajjaaiablkaaW.PrintWords Go.Proofs.YtcgajjaaiablkaaW.PrintLast Go.Proofs.YtcgajjaaiablkaaW.PrintMore
open Go.Proofs.Ytcgajjaaiablkaa.PRelaySealed Go.Proofs.Ytcgajjaaiablkaa.Reader
set_option linter.unusedVariables false
set_option linter.unusedSimpArgs false

theorem next_x (X c : Int) (i : Nat) (h0 : 0 ≤ X) (h1 : X < 128 ^ i) (hc : 0 ≤ c ∧ c < 256) (hi : i ≤ 9) (h9 : i = 9 → c = 1) :
    IntKind.u64.wrap (X + (shl .u64 (IntKind.u64.wrap (Int.tmod c 128)) (IntKind.u64.wrap (wrap64 (7 * (i : Int)))))) = X + c % 128 * 128 ^ i := by
  have e7 : IntKind.u64.wrap (wrap64 (7 * (i : Int))) = ((7 * i : Nat) : Int) := by rw [IntKind.wrap_u64]; unfold wrap64; omega
  rw [e7]
  have hs := shl_small (k := .u64) (x := IntKind.u64.wrap (Int.tmod c 128)) (y := ((7 * i : Nat) : Int)) rfl (by show ((7 * i : Nat) : Int) ≤ 64; omega)
  rw [← hs]
  have ht : Int.tmod c 128 = c % 128 := Int.tmod_eq_emod_of_nonneg hc.1
  rw [ht, Int.toNat_natCast]
  have hp : (2 : Int) ^ (7 * i) = 128 ^ i := by rw [Int.pow_mul]; rfl
  rw [hp]
  obtain ⟨n, hn⟩ : ∃ n : Nat, (n : Int) = c % 128 := ⟨(c % 128).toNat, by omega⟩
  have hn7 : n < 128 := by omega
  obtain ⟨x, rfl⟩ := Int.eq_ofNat_of_zero_le h0
  have hx : x < 128 ^ i := by have := h1; exact_mod_cast this
  have hsum : x + n * 128 ^ i < 18446744073709551616 := by
    by_cases e : i = 9
    · subst e
      have : n = 1 := by have := h9 rfl; omega
      subst this
      have h3 : (128 : Nat) ^ 9 = 9223372036854775808 := by decide
      omega
    · have h2 : 128 ^ i ≤ 128 ^ 8 := Nat.pow_le_pow_right (by decide) (by omega)
      have h3 : n * 128 ^ i ≤ 127 * 128 ^ 8 := Nat.mul_le_mul (by omega) h2
      have h4 : 128 * (128 : Nat) ^ 8 < 18446744073709551616 := by decide
      omega
  rw [← hn, IntKind.wrap_u64, IntKind.wrap_u64, IntKind.wrap_u64]
  have e1 : ((n : Int) % 18446744073709551616) = (n : Int) := by omega
  have e2 : ((n * 128 ^ i : Nat) : Int) = (n : Int) * 128 ^ i := by push_cast; rfl
  rw [e1, ← e2]
  omega

theorem step_short (k : Nat) (bs : List Int) (a X i p : Int) (hi : i < 10) (hw : wrap64 (a + i) = p) (hp : p ≥ (bs.length : Int)) : portageref01_number.l0 (k + 1) bs a X i = some (0, 0, 2) := by
  simp only [portageref01_number.l0]
  rw [if_pos hi, hw, if_pos hp]
theorem step_end (k : Nat) (bs : List Int) (a X i : Int) (hi : ¬ i < 10) : portageref01_number.l0 (k + 1) bs a X i = some (0, 0, 4) := by
  simp only [portageref01_number.l0]
  rw [if_neg hi]
theorem step_in (k : Nat) (bs : List Int) (a X i p c : Int) (b : Bool) (hi : 0 ≤ i ∧ i < 10) (hw : wrap64 (a + i) = p) (h0 : 0 ≤ p) (h1 : p < (bs.length : Int)) (hc : rd bs p = c) (hb : (b = true ↔ (i = 9 ∧ c ≠ 1) ∨ (0 < i ∧ c = 0))) :
    portageref01_number.l0 (k + 1) bs a X i = portageref01_number.j1 k bs a X i c b := by
  simp only [portageref01_number.l0]
  rw [if_pos hi.2, hw, if_neg (by omega), if_pos h0, if_pos h1, hc]
  by_cases h9 : i = 9
  · rw [if_pos h9]
    by_cases hc1 : c = 1
    · have hbf : b = false := by
        cases b
        · rfl
        · have := hb.1 rfl; omega
      have h10 : (c == 0) = false := by rw [beq_eq_false_iff_ne]; omega
      rw [if_pos hc1, if_pos (by omega), h10, hbf]
    · rw [if_neg hc1, hb.2 (.inl ⟨h9, hc1⟩)]
  · rw [if_neg h9]
    by_cases hi0 : i > 0
    · rw [if_pos hi0]
      by_cases hc0 : c = 0
      · have h10 : (c == 0) = true := by rw [beq_iff_eq]; exact hc0
        rw [h10, hb.2 (.inr ⟨hi0, hc0⟩)]
      · have h10 : (c == 0) = false := by rw [beq_eq_false_iff_ne]; exact hc0
        have hbf : b = false := by
          cases b
          · rfl
          · have := hb.1 rfl; omega
        rw [h10, hbf]
    · have hbf : b = false := by
        cases b
        · rfl
        · have := hb.1 rfl; omega
      rw [if_neg hi0, hbf]
theorem j_bad (k : Nat) (bs : List Int) (a X i c : Int) : portageref01_number.j1 (k + 1) bs a X i c true = some (0, 0, 4) := by
  simp only [portageref01_number.j1]
  rw [if_pos trivial]
theorem j_fin (k : Nat) (bs : List Int) (a X i c Y i1 : Int) (h7 : 0 ≤ IntKind.u64.wrap (wrap64 (7 * i))) (hf : c < 128) (hY : IntKind.u64.wrap (X + (shl .u64 (IntKind.u64.wrap (Int.tmod c 128)) (IntKind.u64.wrap (wrap64 (7 * i))))) = Y) (hi : wrap64 (i + 1) = i1) :
    portageref01_number.j1 (k + 1) bs a X i c false = some (Y, i1, 0) := by
  simp only [portageref01_number.j1]
  rw [if_neg (by simp), if_pos h7, if_pos hf, hY, hi]
theorem j_go (k : Nat) (bs : List Int) (a X i c Y i1 : Int) (h7 : 0 ≤ IntKind.u64.wrap (wrap64 (7 * i))) (hf : ¬ c < 128) (hY : IntKind.u64.wrap (X + (shl .u64 (IntKind.u64.wrap (Int.tmod c 128)) (IntKind.u64.wrap (wrap64 (7 * i))))) = Y) (hi : wrap64 (i + 1) = i1) :
    portageref01_number.j1 (k + 1) bs a X i c false = portageref01_number.l0 k bs a Y i1 := by
  simp only [portageref01_number.j1]
  rw [if_neg (by simp), if_pos h7, if_neg hf, hY, hi]
end Go.Proofs.Ytcgajjaaiablkaa.NumRef
