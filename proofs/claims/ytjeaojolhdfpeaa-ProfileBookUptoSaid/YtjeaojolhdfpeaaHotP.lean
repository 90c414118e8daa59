/- Profile: the order of the hot functions, and that a list which is sorted so is one. Plain lists. -/
import Derived.Sort.LotA
import Derived.RowKit
namespace Go.Proofs.Ytjeaojolhdfpeaa.HotP
open Go.Sort
set_option linter.unusedVariables false
set_option linter.unusedSimpArgs false

def cmpI (a b : Int) : Int := if a < b then -1 else if b < a then 1 else 0
def orI (a b : Int) : Int := if a ≠ 0 then a else b
/-- The more often first; of as many the smaller number. -/
def cf (c : Int → Int) (x y : Int) : Int := orI (cmpI (c y) (c x)) (cmpI x y)
def lt (c : Int → Int) (x y : Int) : Bool := decide (cf c x y < 0)
theorem cf_neg (c : Int → Int) (x y : Int) : cf c x y < 0 ↔ c y < c x ∨ (c y = c x ∧ x < y) := by
  unfold cf orI cmpI
  repeat' split
  all_goals omega
theorem lt_iff (c : Int → Int) (x y : Int) : lt c x y = true ↔ c y < c x ∨ (c y = c x ∧ x < y) := by
  unfold lt
  rw [decide_eq_true_iff]
  exact cf_neg c x y
theorem lt_no (c : Int → Int) (x y : Int) : lt c x y = false ↔ ¬ (c y < c x ∨ (c y = c x ∧ x < y)) := by
  rw [← lt_iff c x y]
  simp
theorem swo (c : Int → Int) : SWO (lt c) where
  irrefl x := (lt_no c x x).2 (by omega)
  trans x y z h1 h2 := (lt_iff c x z).2 (by have := (lt_iff c x y).1 h1; have := (lt_iff c y z).1 h2; omega)
  ntrans x y z h1 h2 := (lt_no c x z).2 (by have := (lt_no c x y).1 h1; have := (lt_no c y z).1 h2; omega)
theorem total (c : Int → Int) (x y : Int) (h1 : lt c x y = false) (h2 : lt c y x = false) : x = y := by
  have := (lt_no c x y).1 h1
  have := (lt_no c y x).1 h2
  omega
/-- A row that is sorted so is what the sort makes of any row of the same. -/
theorem uniqG {α : Type} [Inhabited α] {lt : α → α → Bool} (hO : SWO lt) (hT : ∀ x y, lt x y = false → lt y x = false → x = y) (ss L : List α) (hL : L.Perm ss) (hLs : L.Pairwise (fun x y => lt x y = true)) : ss.mergeSort (fun x y => !lt y x) = L := by
  have hlen : L.length = ss.length := hL.length_eq
  have hp2 : PermIn 0 ss.toArray.size ss.toArray L.toArray := by
    refine ⟨by simpa using hlen, fun i hi => ?_, ?_⟩
    · rcases hi with hi | hi
      · exact absurd hi (Nat.not_lt_zero _)
      · have h3 : ss.length ≤ i := by simpa using hi
        have h4 : L.length ≤ i := by omega
        simp [h3, h4, getElem!_def, List.getElem?_eq_none]
    · have e1 : (ss.toArray.extract 0 ss.toArray.size).toList = ss := by simp
      have e2 : (L.toArray.extract 0 ss.toArray.size).toList = L := by simp [hlen.symm]
      rw [e1, e2]
      exact hL
  have hs2 : SortedIn lt 0 ss.toArray.size L.toArray := by
    intro i j _ hij hj
    have hj2 : j < L.length := by rw [hlen]; simpa using hj
    have h3 := List.pairwise_iff_getElem.1 hLs i j (by omega) hj2 hij
    have e1 : L.toArray[i]! = L[i] := by simp [getElem!_def, List.getElem?_eq_getElem (show i < L.length by omega)]
    have e2 : L.toArray[j]! = L[j] := by simp [getElem!_def, List.getElem?_eq_getElem hj2]
    rw [e1, e2]
    cases h4 : lt L[j] L[i] with
    | false => rfl
    | true =>
      have h5 := hO.trans _ _ _ h3 h4
      rw [hO.irrefl] at h5
      cases h5
  have h2 := sorted_unique_holds hO hT ss.toArray L.toArray hp2 hs2
  exact h2.symm
end Go.Proofs.Ytjeaojolhdfpeaa.HotP
