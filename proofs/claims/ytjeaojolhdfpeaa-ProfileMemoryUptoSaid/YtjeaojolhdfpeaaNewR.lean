/- The reference's New is what a book holds at the beginning. No program is walked. -/
import Derived.Test.YtjeaojolhdfpeaaBookN
namespace Go.Proofs.Ytjeaojolhdfpeaa.NewR
open Go.RowKit Go.Maps Go.Proofs.YtjeaojolhdfpeaaW.PrintWords Go.Proofs.YtjeaojolhdfpeaaW.PrintLast Go.Proofs.YtjeaojolhdfpeaaW.PrintMore
open Go.Proofs.Ytjeaojolhdfpeaa.PProfileMemory Go.Proofs.Ytjeaojolhdfpeaa.BookB Go.Proofs.Ytjeaojolhdfpeaa.BookN
set_option linter.unusedVariables false
set_option linter.unusedSimpArgs false
theorem wrap_nat (i n : Nat) (h : i < n) (hn : n ≤ 9223372036854775807) : wrap64 ((i : Int) + 1) = ((i + 1 : Nat) : Int) := by unfold wrap64; omega

/-! ### The reference's New -/
theorem ref_at (l : List (List S28)) (i j : Nat) : portageref18_At.f l (i : Int) (j : Int) = some ((gt l i j).f0, (gt l i j).f1, (gt l i j).f2, (gt l i j).f3) := by
  have e3 : rd_L4 l (i : Int) = rw_ l i := rfl
  unfold portageref18_At.f
  rw [if_neg (by omega), e3]
  by_cases h1 : i < l.length
  · rw [if_neg (by omega), if_neg (by omega), if_pos (by omega), if_pos (by omega)]
    by_cases h2 : j < (rw_ l i).length
    · rw [if_neg (by omega), if_pos (by omega), if_pos (by omega)]
      rfl
    · rw [if_pos (by omega)]
      have : gt l i j = z28 := by simp [gt, List.getD_eq_getElem?_getD, List.getElem?_eq_none (Nat.not_lt.1 h2)]
      rw [this]
      rfl
  · rw [if_pos (by omega)]
    have : gt l i j = z28 := by
      have : rw_ l i = [] := by simp [rw_, List.getD_eq_getElem?_getD, List.getElem?_eq_none (Nat.not_lt.1 h1)]
      simp [gt, this]
    rw [this]
    rfl
theorem new_l1 (gl : List S228) (fs : List S119) (l : List (List S28)) (hl : fs.length ≤ 1048576) (i : Nat) (hi : i < fs.length) (hn : cl fs i ≤ 1048576)
    (hnext : Ev (fun k => portageref18_New.l0 k ((i + 1 : Nat) : Int) gl fs l (newF fs l (i + 1))) (newF fs l fs.length)) (d : Nat) : ∀ j : Nat, j ≤ cl fs i → cl fs i - j = d → Ev (fun k => portageref18_New.l1 k (i : Int) ((List.range j).map (gt l i)) (j : Int) gl fs l (newF fs l i)) (newF fs l fs.length) := by
  have ec : (rd_T119 fs (i : Int)).f3.length = cl fs i := rfl
  induction d with
  | zero =>
    intro j hj hd
    obtain rfl : j = cl fs i := by omega
    refine Ev.step (fun k => ?_) hnext
    simp only [portageref18_New.l1]
    rw [ec, if_pos (show (0 : Int) ≤ (i : Int) by omega), if_pos (show (i : Int) < (fs.length : Int) by omega), if_neg (Int.lt_irrefl _), if_pos (by rw [newF_len]; omega), ← newF_succ, wrap_nat i _ hi (by omega)]
  | succ d ih =>
    intro j hj hd
    refine Ev.step (fun k => ?_) (ih (j + 1) (by omega) (by omega))
    simp only [portageref18_New.l1]
    rw [ec, if_pos (show (0 : Int) ≤ (i : Int) by omega), if_pos (show (i : Int) < (fs.length : Int) by omega), if_pos (show (j : Int) < (cl fs i : Int) by omega), ref_at, Option.bind_some, if_pos (by rw [List.length_map, List.length_range]; omega), wrap_nat j (cl fs i) (by omega) (by omega), List.range_succ, List.map_append]
    rfl
theorem new_l0 (gl : List S228) (fs : List S119) (l : List (List S28)) (hl : fs.length ≤ 1048576) (hn : ∀ i, i < fs.length → cl fs i ≤ 1048576) (d : Nat) : ∀ i : Nat, i ≤ fs.length → fs.length - i = d → Ev (fun k => portageref18_New.l0 k (i : Int) gl fs l (newF fs l i)) (newF fs l fs.length) := by
  induction d with
  | zero =>
    intro i hi hd
    obtain rfl : i = fs.length := by omega
    refine Ev.step (fun k => ?_) (Ev.now _)
    simp only [portageref18_New.l0]
    rw [if_neg (by omega)]
  | succ d ih =>
    intro i hi hd
    refine Ev.step (fun k => ?_) (new_l1 gl fs l hl i (by omega) (hn i (by omega)) (ih (i + 1) (by omega) (by omega)) _ 0 (Nat.zero_le _) rfl)
    simp only [portageref18_New.l0]
    rw [if_pos (by omega)]
    rfl
theorem cl_tot (fs : List S119) {i : Nat} (h : i < fs.length) : cl fs i ≤ tot fs fs.length := by
  have h2 := tot_le fs (show i + 1 ≤ fs.length from h)
  simp only [tot] at h2
  omega
theorem ref_new (gl : List S228) (fs : List S119) (l : List (List S28)) (hl : fs.length ≤ 1048576) (ht : tot fs fs.length ≤ 1048576) : ∃ k, portageref18_New.f k gl fs l = some (newF fs l fs.length) :=
  (new_l0 gl fs l hl (fun i hi => Nat.le_trans (cl_tot fs hi) ht) _ 0 (Nat.zero_le _) rfl).rounds

end Go.Proofs.Ytjeaojolhdfpeaa.NewR
