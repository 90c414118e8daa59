/- One field of a spot, as the reference reads it and as fieldsR says it. -/
import Derived.Test.YtjeaojolhdfpeaaRefByte
namespace Go.Proofs.Ytjeaojolhdfpeaa.RefReader
open Go.RowKit Go.Proofs.YtjeaojolhdfpeaaW.PrintWords Go.Proofs.YtjeaojolhdfpeaaW.PrintLast Go.Proofs.YtjeaojolhdfpeaaW.PrintMore
open Go.Proofs.Ytjeaojolhdfpeaa.PProfileDecode Go.Proofs.Ytjeaojolhdfpeaa.Reader Go.Proofs.Ytjeaojolhdfpeaa.Methods Go.Proofs.Ytjeaojolhdfpeaa.NumRef Go.Proofs.Ytjeaojolhdfpeaa.SpotOf
set_option linter.unusedVariables false
set_option linter.unusedSimpArgs false

/-- The greatest number of field i. -/
def most (i : Nat) : Int := if i = 0 then 9223372036854775807 else 1023
theorem ok_set (s : S28) (i : Nat) (x : Int) (hs : okSpot s = true) (hi : i < 3) (hx : 0 ≤ x ∧ x < 18446744073709551616) : okSpot (setF s i x) = decide (x ≤ most i) := by
  simp only [okSpot, Bool.and_eq_true, decide_eq_true_eq] at hs
  rcases (by omega : i = 0 ∨ i = 1 ∨ i = 2) with rfl | rfl | rfl
  · by_cases h : x ≤ most 0
    · rw [decide_eq_true h]
      simp only [most, if_pos] at h
      simp only [okSpot, setF, Bool.and_eq_true, decide_eq_true_eq]
      refine ⟨?_, hs.2⟩
      unfold wrap64; omega
    · rw [decide_eq_false h]
      simp only [most, if_pos] at h
      have : decide (0 ≤ wrap64 x) = false := by
        rw [decide_eq_false_iff_not]
        unfold wrap64; omega
      simp only [okSpot, setF]
      rw [this]; rfl
  · by_cases h : x ≤ most 1
    · rw [decide_eq_true h]
      simp [most] at h
      simp only [okSpot, setF, Bool.and_eq_true, decide_eq_true_eq]
      rw [if_neg (by omega)]
      exact ⟨hs.1, h, hs.2.2⟩
    · rw [decide_eq_false h]
      simp [most] at h
      have : decide ((if 32768 < x then (32768 : Int) else x) ≤ 1023) = false := by
        rw [decide_eq_false_iff_not]
        split <;> omega
      simp only [okSpot, setF]
      rw [this]; simp
  · by_cases h : x ≤ most 2
    · rw [decide_eq_true h]
      simp [most] at h
      simp only [okSpot, setF, Bool.and_eq_true, decide_eq_true_eq]
      rw [if_neg (by omega)]
      exact ⟨hs.1, hs.2.1, h, hs.2.2.2⟩
    · rw [decide_eq_false h]
      simp [most] at h
      have : decide ((if 32768 < x then (32768 : Int) else x) ≤ 1023) = false := by
        rw [decide_eq_false_iff_not]
        split <;> omega
      simp only [okSpot, setF]
      rw [this]; simp
/-- fieldsR by the reference's field: d + i = 4. -/
theorem fields_step (bs : List Int) (fl : Int) (d : Nat) (s : S28) (a : Nat) (hb : Bytes bs) (ha : a ≤ bs.length) (hs : okSpot s = true) (hd : 1 ≤ d ∧ d ≤ 3) (hbit : ¬ fl / 2 ^ (3 - d) % 2 = 0) :
    fieldsR bs fl (d + 1) s a = if (fieldR bs a (most (3 - d))).2.1 ≠ 0 then ((fieldR bs a (most (3 - d))).2.1, s, a) else fieldsR bs fl d (setF s (3 - d) (fieldR bs a (most (3 - d))).1) (fieldR bs a (most (3 - d))).2.2.1 := by
  have hu := (uintR_le bs a 0 hb ha).2
  have hok := ok_set s (3 - d) (uintR bs a 0).1 hs (by omega) hu
  simp only [fieldsR]
  rw [if_neg hbit, if_neg (by omega : ¬ d = 0), hok]
  unfold fieldR
  by_cases h1 : (uintR bs a 0).2.2 ≠ 0
  · rw [if_pos h1, if_pos h1, if_pos h1]
  · rw [if_neg h1, if_neg h1]
    by_cases h2 : (uintR bs a 0).1 = 0
    · rw [if_pos h2, if_pos h2]; rfl
    · rw [if_neg h2, if_neg h2]
      by_cases h3 : (uintR bs a 0).1 > most (3 - d)
      · rw [if_neg (by rw [decide_eq_true_eq]; omega), if_pos h3]; rfl
      · rw [if_pos (by rw [decide_eq_true_eq]; omega), if_neg h3]; rfl
end Go.Proofs.Ytjeaojolhdfpeaa.RefReader
