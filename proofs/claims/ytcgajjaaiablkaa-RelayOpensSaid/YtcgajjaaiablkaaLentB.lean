/- portagekit's Lent and Kept over bytes: 64 marks behind the bytes. -/
import Derived.Test.YtcgajjaaiablkaaPRelayOpensx0
import Derived.Test.YtcgajjaaiablkaaPRelayOpensx1
import Derived.Test.YtcgajjaaiablkaaPRelayOpensx2
import Derived.Test.YtcgajjaaiablkaaPRelayOpensx3
namespace Go.Proofs.Ytcgajjaaiablkaa.LentB
open Go.RowKit Go.Proofs.YtcgajjaaiablkaaW.PrintWords Go.Proofs.YtcgajjaaiablkaaW.PrintLast Go.Proofs.YtcgajjaaiablkaaW.PrintMore
open Go.Proofs.Ytcgajjaaiablkaa.PRelayOpens
set_option linter.unusedVariables false
set_option linter.unusedSimpArgs false

def mk (j : Nat) : Int := (201 + (j : Int) % 40) % 256
def mks (n : Nat) : List Int := (List.range n).map mk
theorem mks_zero : mks 0 = [] := rfl
theorem mks_succ (n : Nat) : mks (n + 1) = mks n ++ [mk n] := by simp [mks, List.range_succ]
theorem mks_length (n : Nat) : (mks n).length = n := by simp [mks]
theorem tmod40 (j : Nat) : (wrap64 (201 + (Int.tmod (j : Int) 40))) % 256 = mk j := by
  have : Int.tmod (j : Int) 40 = (j : Int) % 40 := Int.tmod_eq_emod_of_nonneg (by omega)
  rw [this]
  unfold mk wrap64
  omega
theorem lent_l1 (bs : List Int) (hl : bs.length ≤ 140737488351232) (d : Nat) : ∀ j : Nat, 64 - j = d → j ≤ 64 → Ev (fun k => portagekit_Lent.l1 k (bs ++ mks j) (j : Int)) (bs ++ mks 64) := by
  induction d with
  | zero =>
    intro j hj hle
    obtain rfl : j = 64 := by omega
    refine Ev.step (fun k => ?_) (Ev.now _)
    simp only [portagekit_Lent.l1]
    rw [if_neg (by omega)]
  | succ d ih =>
    intro j hj hle
    refine Ev.step (fun k => ?_) (ih (j + 1) (by omega) (by omega))
    simp only [portagekit_Lent.l1]
    have hw : wrap64 ((j : Int) + 1) = ((j + 1 : Nat) : Int) := by unfold wrap64; omega
    rw [if_pos (by omega), if_pos (by rw [List.length_append, mks_length]; omega), hw, tmod40, List.append_assoc, ← mks_succ]
theorem lent_l0 (bs : List Int) (hl : bs.length ≤ 140737488351232) (d : Nat) : ∀ i : Nat, bs.length - i = d → i ≤ bs.length → Ev (fun k => portagekit_Lent.l0 k bs (bs.take i) (i : Int)) (bs ++ mks 64) := by
  induction d with
  | zero =>
    intro i hi hle
    obtain rfl : i = bs.length := by omega
    refine Ev.step (fun k => ?_) (lent_l1 bs hl _ 0 rfl (by omega))
    simp only [portagekit_Lent.l0]
    rw [if_neg (by omega), List.take_length, mks_zero, List.append_nil]
    rfl
  | succ d ih =>
    intro i hi hle
    refine Ev.step (fun k => ?_) (ih (i + 1) (by omega) (by omega))
    simp only [portagekit_Lent.l0]
    have hw : wrap64 ((i : Int) + 1) = ((i + 1 : Nat) : Int) := by unfold wrap64; omega
    have ht : bs.take i ++ [rd bs (i : Int)] = bs.take (i + 1) := by
      rw [List.take_succ_eq_append_getElem (by omega : i < bs.length)]
      simp [rd, List.getD_eq_getElem?_getD, List.getElem?_eq_getElem (by omega : i < bs.length)]
    rw [if_pos (by omega), if_pos (by omega), if_pos (by rw [List.length_take]; omega), hw, ht]
theorem lent_f (bs : List Int) (hl : bs.length ≤ 140737488351232) : ∃ k, portagekit_Lent.f k bs = some (bs ++ mks 64) := (lent_l0 bs hl _ 0 rfl (Nat.zero_le _)).rounds
theorem rd_left (xs ys : List Int) (i : Nat) (h : i < xs.length) : rd (xs ++ ys) (i : Int) = rd xs (i : Int) := by
  simp only [rd, List.getD_eq_getElem?_getD, Int.toNat_natCast]
  rw [List.getElem?_append_left h]
theorem rd_right (xs ys : List Int) (i : Nat) (h : xs.length ≤ i) : rd (xs ++ ys) (i : Int) = rd ys ((i - xs.length : Nat) : Int) := by
  simp only [rd, List.getD_eq_getElem?_getD, Int.toNat_natCast]
  rw [List.getElem?_append_right h]
theorem rd_mks (n j : Nat) (h : j < n) : rd (mks n) (j : Int) = mk j := by
  simp [rd, mks, List.getD_eq_getElem?_getD, h]
theorem kept_l0 (bs : List Int) (hl : bs.length ≤ 140737488351232) (d : Nat) : ∀ i : Nat, bs.length + 64 - i = d → i ≤ bs.length + 64 → Ev (fun k => portagekit_Kept.l0 k (bs ++ mks 64) bs (i : Int)) true := by
  induction d with
  | zero =>
    intro i hi hle
    refine Ev.step (fun k => ?_) (Ev.now _)
    simp only [portagekit_Kept.l0]
    rw [if_neg (by rw [List.length_append, mks_length]; omega)]
  | succ d ih =>
    intro i hi hle
    refine Ev.step (fun k => ?_) (ih (i + 1) (by omega) (by omega))
    simp only [portagekit_Kept.l0]
    have hw : wrap64 ((i : Int) + 1) = ((i + 1 : Nat) : Int) := by unfold wrap64; omega
    rw [if_pos (by rw [List.length_append, mks_length]; omega)]
    by_cases h : i < bs.length
    · rw [if_pos (by omega), if_pos (by omega), rd_left _ _ _ h, if_pos rfl, hw]
    · have h2 : wrap64 ((i : Int) - (bs.length : Int)) = ((i - bs.length : Nat) : Int) := by unfold wrap64; omega
      rw [if_neg (by omega), if_pos (by omega), rd_right _ _ _ (by omega), h2, tmod40, rd_mks _ _ (by omega), if_pos rfl, hw]
theorem kept_f (bs : List Int) (hl : bs.length ≤ 140737488351232) : ∃ k, portagekit_Kept.f k (bs ++ mks 64) bs = some true := by
  obtain ⟨k, hk⟩ := (kept_l0 bs hl _ 0 rfl (Nat.zero_le _)).rounds
  refine ⟨k, ?_⟩
  unfold portagekit_Kept.f
  have hw : wrap64 ((bs.length : Int) + 64) = ((bs.length + 64 : Nat) : Int) := by unfold wrap64; omega
  rw [if_pos (by rw [hw, List.length_append, mks_length])]
  exact hk
end Go.Proofs.Ytcgajjaaiablkaa.LentB
