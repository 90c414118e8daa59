/- fits says whether Encode takes a profile. Plain lists and numbers. -/
import Derived.Test.YtjeaojolhdfpeaaBackPure
import Derived.Test.YtjeaojolhdfpeaaPProfileBackx
namespace Go.Proofs.Ytjeaojolhdfpeaa.BackFits
open Go.RowKit Go.Proofs.YtjeaojolhdfpeaaW.PrintWords Go.Proofs.YtjeaojolhdfpeaaW.PrintMore
open Go.Proofs.Ytjeaojolhdfpeaa.PProfileBack Go.Proofs.Ytjeaojolhdfpeaa.Form
set_option linter.unusedVariables false
set_option linter.unusedSimpArgs false

def fitsFrom (l : List (List S28)) (i : Nat) : Bool := (l.drop i).all fun x => decide (x.length ≤ 2000) && x.all okSpot
theorem fitsFrom_step (l : List (List S28)) (i : Nat) (h : i < l.length) : fitsFrom l i = (decide (l[i].length ≤ 2000) && okUpto l[i] 0 && fitsFrom l (i + 1)) := by
  unfold fitsFrom okUpto
  rw [List.drop_eq_getElem_cons h, List.all_cons, List.drop_zero]
theorem fits_l1 (l : List (List S28)) (i : Nat) (hi : i < l.length) (hx : l[i].length ≤ 2000) (next : Ev (fun k => portagelaw18_fits.l0 k (wrap64 ((i : Int) + 1)) l) (fitsFrom l (i + 1))) (d : Nat) :
    ∀ j : Nat, l[i].length - j = d → j ≤ l[i].length → Ev (fun k => portagelaw18_fits.l1 k (i : Int) (j : Int) l) (okUpto l[i] j && fitsFrom l (i + 1)) := by
  induction d with
  | zero =>
    intro j hj hle
    obtain rfl : j = l[i].length := by omega
    have e : (okUpto l[i] l[i].length && fitsFrom l (i + 1)) = fitsFrom l (i + 1) := by simp [okUpto]
    rw [e]
    refine Ev.step (fun k => ?_) next
    simp only [portagelaw18_fits.l1, rdL l i hi]
    rw [if_pos (by omega), if_pos (by omega), if_neg (by omega)]
  | succ d ih =>
    intro j hj hle
    have hj2 : j < l[i].length := by omega
    rw [okUpto_step l[i] j hj2]
    have hw : wrap64 ((j : Int) + 1) = ((j + 1 : Nat) : Int) := by unfold wrap64; omega
    by_cases hok : okSpot l[i][j] = true
    · rw [hok, Bool.true_and]
      refine Ev.step (fun k => ?_) (ih (j + 1) (by omega) (by omega))
      simp only [okSpot, Bool.and_eq_true, decide_eq_true_eq] at hok
      simp only [portagelaw18_fits.l1, rdL l i hi, rdT l[i] j hj2]
      rw [if_pos (by omega), if_pos (by omega), if_pos (by omega), if_pos (by omega), if_neg (by omega), if_neg (by omega), if_neg (by omega), if_neg (by omega), if_neg (by omega), hw]
    · have hno : okSpot l[i][j] = false := by simpa using hok
      rw [hno, Bool.false_and, Bool.false_and]
      refine Ev.step (f := fun _ => some false) (fun k => ?_) (Ev.now _)
      simp only [portagelaw18_fits.l1, rdL l i hi, rdT l[i] j hj2]
      rw [if_pos (by omega), if_pos (by omega), if_pos (by omega), if_pos (by omega)]
      by_cases h0 : l[i][j].f0 < 0
      · rw [if_pos h0]
      · rw [if_neg h0]
        by_cases h1 : l[i][j].f1 > 1023
        · rw [if_pos h1]
        · rw [if_neg h1]
          by_cases h2 : l[i][j].f2 > 1023
          · rw [if_pos h2]
          · rw [if_neg h2]
            by_cases h3 : l[i][j].f3 < -1
            · rw [if_pos h3]
            · rw [if_neg h3]
              by_cases h4 : l[i][j].f3 > 128
              · rw [if_pos h4]
              · exfalso
                apply hok
                simp only [okSpot, Bool.and_eq_true, decide_eq_true_eq]
                omega
theorem fits_l0 (l : List (List S28)) (hl : l.length ≤ 128) (d : Nat) : ∀ i : Nat, l.length - i = d → i ≤ l.length → Ev (fun k => portagelaw18_fits.l0 k (i : Int) l) (fitsFrom l i) := by
  induction d with
  | zero =>
    intro i hi hle
    obtain rfl : i = l.length := by omega
    have e : fitsFrom l l.length = true := by simp [fitsFrom]
    rw [e]
    refine Ev.step (fun k => ?_) (Ev.now _)
    simp only [portagelaw18_fits.l0]
    rw [if_neg (by omega)]
  | succ d ih =>
    intro i hi hle
    have hi2 : i < l.length := by omega
    have hw : wrap64 ((i : Int) + 1) = ((i + 1 : Nat) : Int) := by unfold wrap64; omega
    rw [fitsFrom_step l i hi2]
    by_cases hx : l[i].length ≤ 2000
    · rw [decide_eq_true hx, Bool.true_and]
      have hn := ih (i + 1) (by omega) (by omega)
      rw [← hw] at hn
      refine Ev.step (fun k => ?_) (fits_l1 l i hi2 hx hn _ 0 rfl (by omega))
      simp only [portagelaw18_fits.l0, rdL l i hi2]
      rw [if_pos (by omega), if_pos (by omega), if_neg (by omega)]
      rfl
    · rw [decide_eq_false hx, Bool.false_and, Bool.false_and]
      refine Ev.step (f := fun _ => some false) (fun k => ?_) (Ev.now _)
      simp only [portagelaw18_fits.l0, rdL l i hi2]
      rw [if_pos (by omega), if_pos (by omega), if_pos (by omega)]
def fitsB (l : List (List S28)) : Bool := decide (l.length ≤ 128) && fitsFrom l 0
theorem fits_f (l : List (List S28)) : ∃ k, portagelaw18_fits.f k l = some (fitsB l) := by
  unfold fitsB
  by_cases h : l.length ≤ 128
  · rw [decide_eq_true h, Bool.true_and]
    obtain ⟨k, hk⟩ := (fits_l0 l h _ 0 rfl (by omega)).rounds
    refine ⟨k, ?_⟩
    unfold portagelaw18_fits.f
    rw [if_neg (by omega)]
    exact hk
  · rw [decide_eq_false h, Bool.false_and]
    refine ⟨0, ?_⟩
    unfold portagelaw18_fits.f
    rw [if_pos (by omega)]
theorem fits_good {l : List (List S28)} (h : fitsB l = true) (hg : ∀ x ∈ l, ∀ s ∈ x, Rg s) : BackPure.GoodP l ∧ enc l = (form l, 0) := by
  simp only [fitsB, fitsFrom, List.drop_zero, Bool.and_eq_true, decide_eq_true_eq, List.all_eq_true] at h
  obtain ⟨h1, h2⟩ := h
  have hm : many l = false := by
    unfold many
    rw [decide_eq_false (by omega), Bool.false_or, List.any_eq_false]
    intro x hx
    have := (h2 x hx).1
    simp
    omega
  have ho : okProf l = true := by
    unfold okProf
    rw [List.all_eq_true]
    intro x hx
    rw [List.all_eq_true]
    exact (h2 x hx).2
  refine ⟨⟨h1, fun x hx => (h2 x hx).1, fun x hx s hs => ⟨(h2 x hx).2 s hs, hg x hx s hs⟩⟩, ?_⟩
  unfold enc
  rw [hm, ho]
  rfl
theorem fits_not {l : List (List S28)} (h : fitsB l = false) : ∃ no, enc l = ([], no) ∧ (no = 1 ∨ no = 5) := by
  unfold enc
  cases hm : many l
  · cases ho : okProf l
    · exact ⟨1, rfl, .inl rfl⟩
    · exfalso
      have h2 := many_false hm
      have : fitsB l = true := by
        simp only [fitsB, fitsFrom, List.drop_zero, Bool.and_eq_true, decide_eq_true_eq, List.all_eq_true]
        refine ⟨h2.1, fun x hx => ⟨h2.2 x hx, ?_⟩⟩
        unfold okProf at ho
        rw [List.all_eq_true] at ho
        have := ho x hx
        rwa [List.all_eq_true] at this
      rw [h] at this
      cases this
  · exact ⟨5, rfl, .inr rfl⟩
/-- Pick of a number that is not below one lies below it. -/
theorem pick_f (a : Int) (n : Nat) (ha : -9223372036854775808 ≤ a ∧ a ≤ 9223372036854775807) (hn : 0 < n) (hn2 : n ≤ 9223372036854775807) : ∃ m : Nat, m < n ∧ portagekit_Pick.f a (n : Int) = some (m : Int) := by
  unfold portagekit_Pick.f
  rw [if_neg (by omega), if_neg (by omega)]
  have h1 : -(n : Int) < Int.tmod a n := Int.lt_tmod_of_pos a (by omega)
  have h2 : Int.tmod a n < (n : Int) := Int.tmod_lt_of_pos a (by omega)
  by_cases h : Int.tmod a n < 0
  · rw [if_pos h]
    refine ⟨(Int.tmod a n + n).toNat, by omega, ?_⟩
    congr 1
    unfold wrap64
    omega
  · rw [if_neg h]
    exact ⟨(Int.tmod a n).toNat, by omega, by congr 1; omega⟩
end Go.Proofs.Ytjeaojolhdfpeaa.BackFits
