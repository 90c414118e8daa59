/- SameProfile of a profile and itself: true. -/
import Derived.Test.YtjeaojolhdfpeaaGreatPProfileCutx2
import Derived.Test.YtjeaojolhdfpeaaGreatCutT
import Derived.Test.YtjeaojolhdfpeaaGreatPProfileCutx4
import Derived.Test.YtjeaojolhdfpeaaGreatPProfileCutx5
import Derived.Test.YtjeaojolhdfpeaaGreatCutK
namespace Go.Proofs.YtjeaojolhdfpeaaGreat.SameZ
open Go.RowKit Go.Proofs.YtjeaojolhdfpeaaGreatW.PrintWords Go.Proofs.YtjeaojolhdfpeaaGreatW.PrintLast Go.Proofs.YtjeaojolhdfpeaaGreatW.PrintMore
open Go.Proofs.YtjeaojolhdfpeaaGreat.PProfileCut
set_option linter.unusedVariables false
set_option linter.unusedSimpArgs false

/-! SameProfile of a profile and itself. -/
theorem wrap_nat (i n : Nat) (h : i < n) (hn : n ≤ 9223372036854775807) : wrap64 ((i : Int) + 1) = ((i + 1 : Nat) : Int) := by unfold wrap64; omega
theorem same_l1 (l : List (List S51)) (i : Nat) (hi : i < l.length) (hn : (rd_L3 l (i : Int)).length ≤ 9223372036854775807)
    (hnext : Ev (fun k => portageref0_SameProfile.l0 k (wrap64 ((i : Int) + 1)) l l) true) (e : Nat) : ∀ j : Nat, (rd_L3 l (i : Int)).length - j = e → Ev (fun k => portageref0_SameProfile.l1 k (i : Int) (j : Int) l l) true := by
  induction e with
  | zero =>
    intro j hj
    exact Ev.step (fun k => by simp only [portageref0_SameProfile.l1]; rw [if_pos (by omega), if_pos (by omega), if_neg (by omega)]) hnext
  | succ e ih =>
    intro j hj
    refine Ev.step (fun k => ?_) (ih (j + 1) (by omega))
    simp only [portageref0_SameProfile.l1]
    rw [if_pos (by omega), if_pos (by omega), if_pos (by omega), if_pos (by omega), if_pos (by omega), if_pos (by omega), if_neg (by simp), wrap_nat j _ (by omega) hn]
theorem same_l0 (l : List (List S51)) (hl : l.length ≤ 9223372036854775807) (hn : ∀ x ∈ l, x.length ≤ 9223372036854775807) (d : Nat) : ∀ i : Nat, l.length - i = d → Ev (fun k => portageref0_SameProfile.l0 k (i : Int) l l) true := by
  induction d with
  | zero =>
    intro i hi
    exact Ev.step (fun k => by simp only [portageref0_SameProfile.l0]; rw [if_neg (by omega)]) (Ev.now true)
  | succ d ih =>
    intro i hi
    have hx : (rd_L3 l (i : Int)).length ≤ 9223372036854775807 := hn _ (by simp [rd_L3, List.getD_eq_getElem?_getD, List.getElem?_eq_getElem (show i < l.length by omega)])
    refine Ev.step (fun k => ?_) (same_l1 l i (by omega) hx (by rw [wrap_nat i _ (by omega) hl]; exact ih (i + 1) (by omega)) _ 0 rfl)
    simp only [portageref0_SameProfile.l0]
    rw [if_pos (by omega), if_pos (by omega), if_pos (by omega), if_pos trivial]
    rfl
theorem same_self (l : List (List S51)) (hl : l.length ≤ 9223372036854775807) (hn : ∀ x ∈ l, x.length ≤ 9223372036854775807) : ∃ k, portageref0_SameProfile.f k l l = some true := by
  obtain ⟨k, hk⟩ := (same_l0 l hl hn _ 0 rfl).rounds
  refine ⟨k, ?_⟩
  unfold portageref0_SameProfile.f
  rw [if_pos rfl]
  exact hk

/-- Rows that are read are no longer than a slice can be. -/
theorem row_max {w : World} {A : Option Addr} {n : Nat} {l : List (List S51)} (h : Kd.C (Kd.slice 51 k51) w A n l) : l.length ≤ 9223372036854775807 ∧ ∀ x ∈ l, x.length ≤ 9223372036854775807 := by
  have hn : l.length = n := h.1
  refine ⟨by rw [hn]; exact h.2.1, fun x hx => ?_⟩
  obtain ⟨i, hi, rfl⟩ := List.getElem_of_mem hx
  obtain ⟨ad, A0, c0, _, _, _, hr⟩ := at_L3 h (i : Int) (by omega) (by omega)
  have h2 := Kd.C_max hr
  simpa [rd_L3, List.getD_eq_getElem?_getD, List.getElem?_eq_getElem hi] using h2
theorem same_read {w : World} {A : Option Addr} {n : Nat} {l : List (List S51)} (h : Kd.C (Kd.slice 51 k51) w A n l) : ∃ k, portageref0_SameProfile.f k l l = some true := same_self l (row_max h).1 (row_max h).2
end Go.Proofs.YtjeaojolhdfpeaaGreat.SameZ
