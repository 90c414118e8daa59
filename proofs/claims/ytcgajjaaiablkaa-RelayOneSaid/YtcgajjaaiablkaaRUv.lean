/- Relay: a number's digits as a list, and that the printed function of the writer lays down just these. -/
import Derived.Test.YtcgajjaaiablkaaPRelayOnex0
import Derived.Test.YtcgajjaaiablkaaPRelayOnex1
import Derived.Test.YtcgajjaaiablkaaPRelayOnex2
namespace Go.Proofs.Ytcgajjaaiablkaa.RUv
open Go.RowKit Go.Proofs.YtcgajjaaiablkaaW.PrintWords Go.Proofs.YtcgajjaaiablkaaW.PrintMore
open Go.Proofs.Ytcgajjaaiablkaa.PRelayOne
set_option linter.unusedVariables false
set_option linter.unusedSimpArgs false

/-- A number's digits to the base 128, the lowest first. -/
def uv (n : Nat) : List Int := if h : n < 128 then [(n : Int)] else ((n % 128 + 128 : Nat) : Int) :: uv (n / 128)
  termination_by n
  decreasing_by omega
theorem uv_small {n : Nat} (h : n < 128) : uv n = [(n : Int)] := by rw [uv]; simp [h]
theorem uv_big {n : Nat} (h : 128 ≤ n) : uv n = ((n % 128 + 128 : Nat) : Int) :: uv (n / 128) := by
  rw [uv]
  simp [show ¬ n < 128 by omega]
theorem uv_length_le (d : Nat) : ∀ n : Nat, n < 128 ^ (d + 1) → (uv n).length ≤ d + 1 := by
  induction d with
  | zero => intro n h; rw [uv_small (by simpa using h)]; simp
  | succ d ih =>
    intro n h
    by_cases h1 : n < 128
    · rw [uv_small h1]; simp
    · rw [uv_big (by omega)]
      have := ih (n / 128) (by rw [Nat.div_lt_iff_lt_mul (by omega)]; rw [Nat.pow_succ] at h; exact h)
      simp only [List.length_cons]
      omega
theorem uv_length {n : Nat} (h : n < 18446744073709551616) : (uv n).length ≤ 10 := uv_length_le 9 n (Nat.lt_of_lt_of_le h (by decide))

theorem or_128' (n : Nat) : Go.bits .or .u8 ((n : Int) % 256) 128 = ((n % 128 + 128 : Nat) : Int) := by
  have e : (n : Int) % 256 = ((n % 256 : Nat) : Int) := by omega
  have e2 : (128 : Int) = ((128 : Nat) : Int) := rfl
  rw [e, e2, u8_or_nat _ 128 (by omega) (by omega)]
  congr 1
  have h3 : ∀ m : Fin 256, m.val ||| 128 = m.val % 128 + 128 := by decide +kernel
  have := h3 ⟨n % 256, by omega⟩
  simp only at this
  rw [this]
  omega

theorem digits_go (d : Nat) : ∀ (n : Nat) (bs : List Int), n < 128 ^ (d + 1) → bs.length + d + 1 ≤ 140737488355328 → Ev (fun k => wire_digits_uint64.l0 k bs (n : Int)) (bs ++ uv n) := by
  induction d with
  | zero =>
    intro n bs hn hl
    have hn' : n < 128 := by simpa using hn
    refine Ev.step (f := fun _ => some (bs ++ uv n)) (fun k => ?_) (Ev.now _)
    simp only [wire_digits_uint64.l0]
    rw [if_neg (by omega), if_pos (by omega), uv_small hn', show (n : Int) % 256 = n by omega]
  | succ d ih =>
    intro n bs hn hl
    by_cases h : n < 128
    · refine Ev.step (f := fun _ => some (bs ++ uv n)) (fun k => ?_) (Ev.now _)
      simp only [wire_digits_uint64.l0]
      rw [if_neg (by omega), if_pos (by omega), uv_small h, show (n : Int) % 256 = n by omega]
    · have h2 : n / 128 < 128 ^ (d + 1) := by rw [Nat.div_lt_iff_lt_mul (by omega)]; rw [Nat.pow_succ] at hn; exact hn
      have h3 := ih (n / 128) (bs ++ [((n % 128 + 128 : Nat) : Int)]) h2 (by rw [List.length_append, List.length_singleton]; omega)
      rw [List.append_assoc, List.singleton_append, ← uv_big (by omega)] at h3
      refine Ev.step (fun k => ?_) h3
      simp only [wire_digits_uint64.l0]
      rw [if_pos (by omega), if_pos (by omega), or_128', show (n : Int) / 128 = ((n / 128 : Nat) : Int) by omega]
theorem digits_some (n : Nat) (bs : List Int) (hn : n < 18446744073709551616) (hl : bs.length ≤ 140737488355000) : ∃ k, wire_digits_uint64.f k bs (n : Int) = some (bs ++ uv n) :=
  (digits_go 9 n bs (Nat.lt_of_lt_of_le hn (by decide)) (by omega)).rounds

/-- A word's bytes, the highest first. -/
theorem word_go (s : Int) (pwl : Nat → List Int) (h0 : pwl 0 = []) (h1 : ∀ i, pwl (i + 1) = pwl i ++ [s / 2 ^ (56 - 8 * i) % 256]) (bs : List Int) (hl : bs.length + 8 ≤ 140737488355328) (hlen : ∀ i, (pwl i).length = i) : ∀ (d i : Nat), i + d = 8 → wire_bytesOf_uint64.l0 (d + 1) (bs ++ pwl i) s ((8 : Int) - i - 1) = some (bs ++ pwl 8) := by
  intro d
  induction d with
  | zero =>
    intro i hi
    obtain rfl : i = 8 := by omega
    rw [wire_bytesOf_uint64.l0, if_neg (by omega)]
  | succ d ih =>
    intro i hi
    have e : wrap64 (8 * ((8 : Int) - i - 1)) = ((56 - 8 * i : Nat) : Int) := by unfold wrap64; omega
    have e2 : wrap64 (((8 : Int) - i - 1) - 1) = (8 : Int) - ((i + 1 : Nat) : Int) - 1 := by unfold wrap64; omega
    have e3 : shr .u64 s ((56 - 8 * i : Nat) : Int) = s / 2 ^ (56 - 8 * i) := by
      unfold shr
      rw [show min (((56 - 8 * i : Nat) : Int)).toNat IntKind.u64.bits = 56 - 8 * i by show min _ 64 = _; omega]
    rw [wire_bytesOf_uint64.l0, if_pos (by omega), e, if_pos (by omega), if_pos (by rw [List.length_append, hlen]; omega), e2, e3, List.append_assoc, ← h1]
    exact ih (i + 1) (by omega)
end Go.Proofs.Ytcgajjaaiablkaa.RUv
