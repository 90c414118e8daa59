/- The reference's number comes to 'num', joined. -/
import Derived.Test.YtcgajjaaiablkaaNumRef
namespace Go.Proofs.Ytcgajjaaiablkaa.NumRef
open Go.RowKit Go.Proofs.YtcgajjaaiablkaaW.PrintWords Go.Proofs.YtcgajjaaiablkaaW.PrintLast Go.Proofs.YtcgajjaaiablkaaW.PrintMore
open Go.Proofs.Ytcgajjaaiablkaa.PRelaySealed Go.Proofs.Ytcgajjaaiablkaa.Reader
set_option linter.unusedVariables false
set_option linter.unusedSimpArgs false

/-- The answer as the reference gives it. -/
def out (r : Int × Nat × Int) : Int × Int × Int := (r.1, (r.2.1 : Int), r.2.2)
theorem numR_short (bs : List Int) (a d i : Nat) (X : Int) (h : ¬ a + i < bs.length) : numR bs a (d + 1) i X = (0, 0, 2) := by
  simp only [numR]
  rw [if_neg h]
theorem numR_bad (bs : List Int) (a d i : Nat) (X c : Int) (h : a + i < bs.length) (hc : rd bs ((a + i : Nat) : Int) = c) (hb : (i = 9 ∧ c ≠ 1) ∨ (0 < i ∧ c = 0)) : numR bs a (d + 1) i X = (0, 0, 4) := by
  simp only [numR]
  rw [if_pos h, hc, if_pos hb]
theorem numR_fin (bs : List Int) (a d i : Nat) (X c : Int) (h : a + i < bs.length) (hc : rd bs ((a + i : Nat) : Int) = c) (hb : ¬ ((i = 9 ∧ c ≠ 1) ∨ (0 < i ∧ c = 0))) (hf : c < 128) : numR bs a (d + 1) i X = (X + c * 128 ^ i, i + 1, 0) := by
  simp only [numR]
  rw [if_pos h, hc, if_neg hb, if_pos hf]
theorem numR_go (bs : List Int) (a d i : Nat) (X c : Int) (h : a + i < bs.length) (hc : rd bs ((a + i : Nat) : Int) = c) (hb : ¬ ((i = 9 ∧ c ≠ 1) ∨ (0 < i ∧ c = 0))) (hf : ¬ c < 128) : numR bs a (d + 1) i X = numR bs a d (i + 1) (X + (c - 128) * 128 ^ i) := by
  simp only [numR]
  rw [if_pos h, hc, if_neg hb, if_neg hf]
theorem l0_num (bs : List Int) (a : Nat) (hb : Bytes bs) (ha : a ≤ bs.length) (hl : bs.length ≤ 140737488355328) : ∀ (d i : Nat) (X : Int), i + d = 10 → 0 ≤ X → X < 128 ^ i →
    Ev (fun k => portageref01_number.l0 k bs (a : Int) X (i : Int)) (out (numR bs a d i X)) := by
  intro d
  induction d with
  | zero =>
    intro i X hid _ _
    exact Ev.step (fun k => step_end k bs a X i (by omega)) (Ev.now _)
  | succ d ih =>
    intro i X hid h0 h1
    have hw : wrap64 ((a : Int) + (i : Int)) = ((a + i : Nat) : Int) := by clear h1 h0 ih; unfold wrap64; omega
    have hc := bytes_rd hb (a + i)
    by_cases hlt : a + i < bs.length
    · obtain ⟨c, hcc⟩ : ∃ c, rd bs ((a + i : Nat) : Int) = c := ⟨_, rfl⟩
      rw [hcc] at hc
      have hin : ∀ (b : Bool), (b = true ↔ ((i : Int) = 9 ∧ c ≠ 1) ∨ (0 < (i : Int) ∧ c = 0)) → ∀ k, portageref01_number.l0 (k + 1) bs (a : Int) X (i : Int) = portageref01_number.j1 k bs (a : Int) X (i : Int) c b :=
        fun b hb k => step_in k bs a X i _ c b (by clear h1 h0 ih; omega) hw (by clear h1 h0 ih; omega) (by clear h1 h0 ih; omega) hcc hb
      by_cases hbad : (i = 9 ∧ c ≠ 1) ∨ (0 < i ∧ c = 0)
      · rw [numR_bad bs a d i X c hlt hcc hbad]
        exact Ev.step (hin true ⟨fun _ => by clear h1 h0 ih hin; omega, fun _ => rfl⟩) (Ev.step (fun k => j_bad k bs a X i c) (Ev.now _))
      · have hnx := next_x X c i h0 h1 hc (by clear h1 h0 ih hin; omega) (by clear h1 h0 ih hin; omega)
        have hw7 : 0 ≤ IntKind.u64.wrap (wrap64 (7 * (i : Int))) := by clear h1 h0 ih hin hnx; rw [IntKind.wrap_u64]; omega
        have hwi : wrap64 ((i : Int) + 1) = ((i + 1 : Nat) : Int) := by clear h1 h0 ih hin hnx; unfold wrap64; omega
        have hnb : ¬ (((i : Int) = 9 ∧ c ≠ 1) ∨ (0 < (i : Int) ∧ c = 0)) := by clear h1 h0 ih hin hnx; omega
        have hst := hin false ⟨(fun h => absurd h (by decide)), (fun h => absurd h hnb)⟩
        by_cases hfin : c < 128
        · have hcm : c % 128 = c := by clear h1 h0 ih hin hnx hst; omega
          rw [hcm] at hnx
          rw [numR_fin bs a d i X c hlt hcc hbad hfin]
          exact Ev.step hst (Ev.step (fun k => j_fin k bs a X i c _ _ hw7 hfin hnx hwi) (Ev.now _))
        · have hcm : c % 128 = c - 128 := by clear h1 h0 ih hin hnx hst; omega
          rw [hcm] at hnx
          rw [numR_go bs a d i X c hlt hcc hbad hfin]
          have hp : (0 : Int) ≤ 128 ^ i := Int.le_of_lt (Int.pow_pos (by decide))
          have hp2 : (128 : Int) ^ (i + 1) = 128 ^ i * 128 := Int.pow_succ ..
          have h2 : (c - 128) * 128 ^ i ≤ 127 * 128 ^ i := Int.mul_le_mul_of_nonneg_right (by omega) hp
          have h3 : 0 ≤ (c - 128) * 128 ^ i := Int.mul_nonneg (by omega) hp
          have h4 : X + (c - 128) * 128 ^ i < 128 ^ (i + 1) := by
            rw [hp2]
            generalize (128 : Int) ^ i = P at *
            generalize (c - 128) * P = Q at *
            omega
          exact Ev.step hst (Ev.step (fun k => j_go k bs a X i c _ _ hw7 hfin hnx hwi) (ih (i + 1) _ (by omega) (Int.add_nonneg h0 h3) h4))
    · rw [numR_short bs a d i X hlt]
      exact Ev.step (fun k => step_short k bs a X i _ (by clear h1 h0 ih; omega) hw (by clear h1 h0 ih; omega)) (Ev.now _)
theorem number_num (bs : List Int) (a : Nat) (hb : Bytes bs) (ha : a ≤ bs.length) (hl : bs.length ≤ 140737488355328) : ∃ k, portageref01_number.f k bs (a : Int) = some (out (num bs a)) :=
  (l0_num bs a hb ha hl 10 0 0 rfl (by omega) (by simp)).rounds
end Go.Proofs.Ytcgajjaaiablkaa.NumRef
