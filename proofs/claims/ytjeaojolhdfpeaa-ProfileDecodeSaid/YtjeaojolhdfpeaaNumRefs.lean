/- The reference's number comes to 'num'. The reference's number comes to 'num', joined. -/
import Derived.Test.YtjeaojolhdfpeaaReader
import Derived.Test.YtjeaojolhdfpeaaWMore
import Derived.Test.YtjeaojolhdfpeaaPProfileDecodex2
namespace Go.Proofs.Ytjeaojolhdfpeaa.NumRef
open Go.RowKit Go.Proofs.YtjeaojolhdfpeaaW.PrintWords Go.Proofs.YtjeaojolhdfpeaaW.PrintLast Go.Proofs.YtjeaojolhdfpeaaW.PrintMore
open Go.Proofs.Ytjeaojolhdfpeaa.PProfileDecode Go.Proofs.Ytjeaojolhdfpeaa.Reader
set_option linter.unusedVariables false
set_option linter.unusedSimpArgs false

theorem next_x (X c : Int) (i : Nat) (h0 : 0 ≤ X) (h1 : X < 128 ^ i) (hc : 0 ≤ c ∧ c < 256) (hi : i ≤ 9) (h9 : i = 9 → c = 1) :
    IntKind.u64.wrap (X + (shl .u64 (IntKind.u64.wrap (Int.tmod c 128)) (IntKind.u64.wrap (wrap64 (7 * (i : Int)))))) = X + c % 128 * 128 ^ i := by
  have e7 : IntKind.u64.wrap (wrap64 (7 * (i : Int))) = ((7 * i : Nat) : Int) := by rw [IntKind.wrap_u64]; unfold wrap64; omega
  rw [e7]
  have hs := shl_small (k := .u64) (x := IntKind.u64.wrap (Int.tmod c 128)) (y := ((7 * i : Nat) : Int)) rfl (by show ((7 * i : Nat) : Int) ≤ 64; omega)
  rw [← hs]
  have ht : Int.tmod c 128 = c % 128 := Int.tmod_eq_emod_of_nonneg hc.1
  rw [ht, Int.toNat_natCast]
  have hp : (2 : Int) ^ (7 * i) = 128 ^ i := by rw [Int.pow_mul]; rfl
  rw [hp]
  obtain ⟨n, hn⟩ : ∃ n : Nat, (n : Int) = c % 128 := ⟨(c % 128).toNat, by omega⟩
  have hn7 : n < 128 := by omega
  obtain ⟨x, rfl⟩ := Int.eq_ofNat_of_zero_le h0
  have hx : x < 128 ^ i := by have := h1; exact_mod_cast this
  have hsum : x + n * 128 ^ i < 18446744073709551616 := by
    by_cases e : i = 9
    · subst e
      have : n = 1 := by have := h9 rfl; omega
      subst this
      have h3 : (128 : Nat) ^ 9 = 9223372036854775808 := by decide
      omega
    · have h2 : 128 ^ i ≤ 128 ^ 8 := Nat.pow_le_pow_right (by decide) (by omega)
      have h3 : n * 128 ^ i ≤ 127 * 128 ^ 8 := Nat.mul_le_mul (by omega) h2
      have h4 : 128 * (128 : Nat) ^ 8 < 18446744073709551616 := by decide
      omega
  rw [← hn, IntKind.wrap_u64, IntKind.wrap_u64, IntKind.wrap_u64]
  have e1 : ((n : Int) % 18446744073709551616) = (n : Int) := by omega
  have e2 : ((n * 128 ^ i : Nat) : Int) = (n : Int) * 128 ^ i := by push_cast; rfl
  rw [e1, ← e2]
  omega

theorem step_short (k : Nat) (bs : List Int) (a X i p : Int) (hi : i < 10) (hw : wrap64 (a + i) = p) (hp : p ≥ (bs.length : Int)) : portageref01_number.l0 (k + 1) bs a X i = some (0, 0, 2) := by
  simp only [portageref01_number.l0]
  rw [if_pos hi, hw, if_pos hp]
theorem step_end (k : Nat) (bs : List Int) (a X i : Int) (hi : ¬ i < 10) : portageref01_number.l0 (k + 1) bs a X i = some (0, 0, 4) := by
  simp only [portageref01_number.l0]
  rw [if_neg hi]
theorem step_in (k : Nat) (bs : List Int) (a X i p c : Int) (b : Bool) (hi : 0 ≤ i ∧ i < 10) (hw : wrap64 (a + i) = p) (h0 : 0 ≤ p) (h1 : p < (bs.length : Int)) (hc : rd bs p = c) (hb : (b = true ↔ (i = 9 ∧ c ≠ 1) ∨ (0 < i ∧ c = 0))) :
    portageref01_number.l0 (k + 1) bs a X i = portageref01_number.j1 k bs a X i c b := by
  simp only [portageref01_number.l0]
  rw [if_pos hi.2, hw, if_neg (by omega), if_pos h0, if_pos h1, hc]
  by_cases h9 : i = 9
  · rw [if_pos h9]
    by_cases hc1 : c = 1
    · have hbf : b = false := by
        cases b
        · rfl
        · have := hb.1 rfl; omega
      have h10 : (c == 0) = false := by rw [beq_eq_false_iff_ne]; omega
      rw [if_pos hc1, if_pos (by omega), h10, hbf]
    · rw [if_neg hc1, hb.2 (.inl ⟨h9, hc1⟩)]
  · rw [if_neg h9]
    by_cases hi0 : i > 0
    · rw [if_pos hi0]
      by_cases hc0 : c = 0
      · have h10 : (c == 0) = true := by rw [beq_iff_eq]; exact hc0
        rw [h10, hb.2 (.inr ⟨hi0, hc0⟩)]
      · have h10 : (c == 0) = false := by rw [beq_eq_false_iff_ne]; exact hc0
        have hbf : b = false := by
          cases b
          · rfl
          · have := hb.1 rfl; omega
        rw [h10, hbf]
    · have hbf : b = false := by
        cases b
        · rfl
        · have := hb.1 rfl; omega
      rw [if_neg hi0, hbf]
theorem j_bad (k : Nat) (bs : List Int) (a X i c : Int) : portageref01_number.j1 (k + 1) bs a X i c true = some (0, 0, 4) := by
  simp only [portageref01_number.j1]
  rw [if_pos trivial]
theorem j_fin (k : Nat) (bs : List Int) (a X i c Y i1 : Int) (h7 : 0 ≤ IntKind.u64.wrap (wrap64 (7 * i))) (hf : c < 128) (hY : IntKind.u64.wrap (X + (shl .u64 (IntKind.u64.wrap (Int.tmod c 128)) (IntKind.u64.wrap (wrap64 (7 * i))))) = Y) (hi : wrap64 (i + 1) = i1) :
    portageref01_number.j1 (k + 1) bs a X i c false = some (Y, i1, 0) := by
  simp only [portageref01_number.j1]
  rw [if_neg (by simp), if_pos h7, if_pos hf, hY, hi]
theorem j_go (k : Nat) (bs : List Int) (a X i c Y i1 : Int) (h7 : 0 ≤ IntKind.u64.wrap (wrap64 (7 * i))) (hf : ¬ c < 128) (hY : IntKind.u64.wrap (X + (shl .u64 (IntKind.u64.wrap (Int.tmod c 128)) (IntKind.u64.wrap (wrap64 (7 * i))))) = Y) (hi : wrap64 (i + 1) = i1) :
    portageref01_number.j1 (k + 1) bs a X i c false = portageref01_number.l0 k bs a Y i1 := by
  simp only [portageref01_number.j1]
  rw [if_neg (by simp), if_pos h7, if_neg hf, hY, hi]
end Go.Proofs.Ytjeaojolhdfpeaa.NumRef
namespace Go.Proofs.Ytjeaojolhdfpeaa.NumRef
open Go.RowKit Go.Proofs.YtjeaojolhdfpeaaW.PrintWords Go.Proofs.YtjeaojolhdfpeaaW.PrintLast Go.Proofs.YtjeaojolhdfpeaaW.PrintMore
open Go.Proofs.Ytjeaojolhdfpeaa.PProfileDecode Go.Proofs.Ytjeaojolhdfpeaa.Reader
set_option linter.unusedVariables false
set_option linter.unusedSimpArgs false

/-- The answer as the reference gives it. -/
def out (r : Int × Nat × Int) : Int × Int × Int := (r.1, (r.2.1 : Int), r.2.2)
theorem numR_short (bs : List Int) (a d i : Nat) (X : Int) (h : ¬ a + i < bs.length) : numR bs a (d + 1) i X = (0, 0, 2) := by
  simp only [numR]
  rw [if_neg h]
theorem numR_bad (bs : List Int) (a d i : Nat) (X c : Int) (h : a + i < bs.length) (hc : rd bs ((a + i : Nat) : Int) = c) (hb : (i = 9 ∧ c ≠ 1) ∨ (0 < i ∧ c = 0)) : numR bs a (d + 1) i X = (0, 0, 4) := by
  simp only [numR]
  rw [if_pos h, hc, if_pos hb]
theorem numR_fin (bs : List Int) (a d i : Nat) (X c : Int) (h : a + i < bs.length) (hc : rd bs ((a + i : Nat) : Int) = c) (hb : ¬ ((i = 9 ∧ c ≠ 1) ∨ (0 < i ∧ c = 0))) (hf : c < 128) : numR bs a (d + 1) i X = (X + c * 128 ^ i, i + 1, 0) := by
  simp only [numR]
  rw [if_pos h, hc, if_neg hb, if_pos hf]
theorem numR_go (bs : List Int) (a d i : Nat) (X c : Int) (h : a + i < bs.length) (hc : rd bs ((a + i : Nat) : Int) = c) (hb : ¬ ((i = 9 ∧ c ≠ 1) ∨ (0 < i ∧ c = 0))) (hf : ¬ c < 128) : numR bs a (d + 1) i X = numR bs a d (i + 1) (X + (c - 128) * 128 ^ i) := by
  simp only [numR]
  rw [if_pos h, hc, if_neg hb, if_neg hf]
theorem l0_num (bs : List Int) (a : Nat) (hb : Bytes bs) (ha : a ≤ bs.length) (hl : bs.length ≤ 140737488355328) : ∀ (d i : Nat) (X : Int), i + d = 10 → 0 ≤ X → X < 128 ^ i →
    Ev (fun k => portageref01_number.l0 k bs (a : Int) X (i : Int)) (out (numR bs a d i X)) := by
  intro d
  induction d with
  | zero =>
    intro i X hid _ _
    exact Ev.step (fun k => step_end k bs a X i (by omega)) (Ev.now _)
  | succ d ih =>
    intro i X hid h0 h1
    have hw : wrap64 ((a : Int) + (i : Int)) = ((a + i : Nat) : Int) := by clear h1 h0 ih; unfold wrap64; omega
    have hc := bytes_rd hb (a + i)
    by_cases hlt : a + i < bs.length
    · obtain ⟨c, hcc⟩ : ∃ c, rd bs ((a + i : Nat) : Int) = c := ⟨_, rfl⟩
      rw [hcc] at hc
      have hin : ∀ (b : Bool), (b = true ↔ ((i : Int) = 9 ∧ c ≠ 1) ∨ (0 < (i : Int) ∧ c = 0)) → ∀ k, portageref01_number.l0 (k + 1) bs (a : Int) X (i : Int) = portageref01_number.j1 k bs (a : Int) X (i : Int) c b :=
        fun b hb k => step_in k bs a X i _ c b (by clear h1 h0 ih; omega) hw (by clear h1 h0 ih; omega) (by clear h1 h0 ih; omega) hcc hb
      by_cases hbad : (i = 9 ∧ c ≠ 1) ∨ (0 < i ∧ c = 0)
      · rw [numR_bad bs a d i X c hlt hcc hbad]
        exact Ev.step (hin true ⟨fun _ => by clear h1 h0 ih hin; omega, fun _ => rfl⟩) (Ev.step (fun k => j_bad k bs a X i c) (Ev.now _))
      · have hnx := next_x X c i h0 h1 hc (by clear h1 h0 ih hin; omega) (by clear h1 h0 ih hin; omega)
        have hw7 : 0 ≤ IntKind.u64.wrap (wrap64 (7 * (i : Int))) := by clear h1 h0 ih hin hnx; rw [IntKind.wrap_u64]; omega
        have hwi : wrap64 ((i : Int) + 1) = ((i + 1 : Nat) : Int) := by clear h1 h0 ih hin hnx; unfold wrap64; omega
        have hnb : ¬ (((i : Int) = 9 ∧ c ≠ 1) ∨ (0 < (i : Int) ∧ c = 0)) := by clear h1 h0 ih hin hnx; omega
        have hst := hin false ⟨(fun h => absurd h (by decide)), (fun h => absurd h hnb)⟩
        by_cases hfin : c < 128
        · have hcm : c % 128 = c := by clear h1 h0 ih hin hnx hst; omega
          rw [hcm] at hnx
          rw [numR_fin bs a d i X c hlt hcc hbad hfin]
          exact Ev.step hst (Ev.step (fun k => j_fin k bs a X i c _ _ hw7 hfin hnx hwi) (Ev.now _))
        · have hcm : c % 128 = c - 128 := by clear h1 h0 ih hin hnx hst; omega
          rw [hcm] at hnx
          rw [numR_go bs a d i X c hlt hcc hbad hfin]
          have hp : (0 : Int) ≤ 128 ^ i := Int.le_of_lt (Int.pow_pos (by decide))
          have hp2 : (128 : Int) ^ (i + 1) = 128 ^ i * 128 := Int.pow_succ ..
          have h2 : (c - 128) * 128 ^ i ≤ 127 * 128 ^ i := Int.mul_le_mul_of_nonneg_right (by omega) hp
          have h3 : 0 ≤ (c - 128) * 128 ^ i := Int.mul_nonneg (by omega) hp
          have h4 : X + (c - 128) * 128 ^ i < 128 ^ (i + 1) := by
            rw [hp2]
            generalize (128 : Int) ^ i = P at *
            generalize (c - 128) * P = Q at *
            omega
          exact Ev.step hst (Ev.step (fun k => j_go k bs a X i c _ _ hw7 hfin hnx hwi) (ih (i + 1) _ (by omega) (Int.add_nonneg h0 h3) h4))
    · rw [numR_short bs a d i X hlt]
      exact Ev.step (fun k => step_short k bs a X i _ (by clear h1 h0 ih; omega) hw (by clear h1 h0 ih; omega)) (Ev.now _)
theorem number_num (bs : List Int) (a : Nat) (hb : Bytes bs) (ha : a ≤ bs.length) (hl : bs.length ≤ 140737488355328) : ∃ k, portageref01_number.f k bs (a : Int) = some (out (num bs a)) :=
  (l0_num bs a hb ha hl 10 0 0 rfl (by omega) (by simp)).rounds
end Go.Proofs.Ytjeaojolhdfpeaa.NumRef
