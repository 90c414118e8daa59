/- The reference's CopyProfile: what it comes to. No program is walked. -/
import Derived.Test.YtjeaojolhdfpeaaMergeP
namespace Go.Proofs.Ytjeaojolhdfpeaa.CopyR
open Go.RowKit Go.Maps Go.Proofs.YtjeaojolhdfpeaaW.PrintWords Go.Proofs.YtjeaojolhdfpeaaW.PrintLast Go.Proofs.YtjeaojolhdfpeaaW.PrintMore
open Go.Proofs.Ytjeaojolhdfpeaa.PProfileMemory Go.Proofs.Ytjeaojolhdfpeaa.BookB Go.Proofs.Ytjeaojolhdfpeaa.MergeP
set_option linter.unusedVariables false
set_option linter.unusedSimpArgs false

theorem wrap_nat (i n : Nat) (h : i < n) (hn : n ≤ 9223372036854775807) : wrap64 ((i : Int) + 1) = ((i + 1 : Nat) : Int) := by unfold wrap64; omega
theorem copy_l1 (l : List (List S28)) (hl : l.length ≤ 1099511627776) (i : Nat) (hi : i < l.length) (hx : l[i].length ≤ 1099511627776) (r : List (List S28)) (hnext : Ev (fun k => portageref0_CopyProfile.l0 k (wrap64 ((i : Int) + 1)) l (l.take i ++ [l[i]])) r) (d : Nat) :
    ∀ j : Nat, l[i].length - j = d → j ≤ l[i].length → Ev (fun k => portageref0_CopyProfile.l1 k (i : Int) (l[i].take j) (j : Int) l (l.take i)) r := by
  have hr : rd_L4 l (i : Int) = l[i] := by simp [rd_L4, List.getD_eq_getElem?_getD, List.getElem?_eq_getElem hi]
  have ha : (l.take i).length < 5864062014805 := by rw [List.length_take]; omega
  induction d with
  | zero =>
    intro j hd hj
    obtain rfl : j = l[i].length := by omega
    refine Ev.step (fun k => ?_) hnext
    simp only [portageref0_CopyProfile.l1, hr]
    rw [if_pos (by omega), if_pos (by omega), if_neg (by omega), if_pos ha, List.take_of_length_le (Nat.le_refl _)]
  | succ d ih =>
    intro j hd hj
    have hjn : j < l[i].length := by omega
    have h1 := ih (j + 1) (by omega) (by omega)
    rw [List.take_add_one, List.getElem?_eq_getElem hjn, ← wrap_nat j _ hjn (by omega)] at h1
    have hb : (l[i].take j).length < 5864062014805 := by rw [List.length_take]; omega
    have hs : rd_T28 l[i] (j : Int) = l[i][j] := by simp [rd_T28, List.getD_eq_getElem?_getD, List.getElem?_eq_getElem hjn]
    refine Ev.step (fun k => ?_) h1
    simp only [portageref0_CopyProfile.l1, hr, hs]
    rw [if_pos (by omega), if_pos (by omega), if_pos (by omega), if_pos (by omega), if_pos hb]
    rfl
theorem copy_l0 (l : List (List S28)) (hl : l.length ≤ 1099511627776) (hx : ∀ x ∈ l, x.length ≤ 1099511627776) (d : Nat) : ∀ i : Nat, l.length - i = d → i ≤ l.length → Ev (fun k => portageref0_CopyProfile.l0 k (i : Int) l (l.take i)) l := by
  induction d with
  | zero =>
    intro i hd hi
    obtain rfl : i = l.length := by omega
    refine Ev.step (f := fun _ => some l) (fun k => ?_) (Ev.now _)
    simp only [portageref0_CopyProfile.l0]
    rw [if_neg (by omega), List.take_of_length_le (Nat.le_refl _)]
  | succ d ih =>
    intro i hd hi
    have hil : i < l.length := by omega
    have h1 := ih (i + 1) (by omega) (by omega)
    rw [List.take_add_one, List.getElem?_eq_getElem hil, ← wrap_nat i _ hil (by omega)] at h1
    have h2 := copy_l1 l hl i hil (hx _ (List.getElem_mem hil)) _ h1 _ 0 rfl (Nat.zero_le _)
    rw [List.take_zero] at h2
    refine Ev.step (fun k => ?_) h2
    simp only [portageref0_CopyProfile.l0]
    rw [if_pos (by omega)]
    rfl
theorem copy_ref (l : List (List S28)) (hl : l.length ≤ 1099511627776) (hx : ∀ x ∈ l, x.length ≤ 1099511627776) : ∃ k, portageref0_CopyProfile.f k l = some l := by
  obtain ⟨k, hk⟩ := (copy_l0 l hl hx _ 0 rfl (Nat.zero_le _)).rounds
  rw [List.take_zero] at hk
  exact ⟨k, hk⟩
end Go.Proofs.Ytjeaojolhdfpeaa.CopyR
