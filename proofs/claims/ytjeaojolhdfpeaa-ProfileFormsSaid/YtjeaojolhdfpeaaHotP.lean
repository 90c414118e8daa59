/- Profile: the order of the hot functions, and that a list which is sorted so is one. Plain lists. -/
import Derived.Sort.LotA
import Derived.RowKit
namespace Go.Proofs.Ytjeaojolhdfpeaa.HotP
open Go.Sort
set_option linter.unusedVariables false
set_option linter.unusedSimpArgs false

def cmpI (a b : Int) : Int := if a < b then -1 else if b < a then 1 else 0
def orI (a b : Int) : Int := if a ≠ 0 then a else b
/-- The more often first; of as many the smaller number. -/
def cf (c : Int → Int) (x y : Int) : Int := orI (cmpI (c y) (c x)) (cmpI x y)
def lt (c : Int → Int) (x y : Int) : Bool := decide (cf c x y < 0)
theorem cf_neg (c : Int → Int) (x y : Int) : cf c x y < 0 ↔ c y < c x ∨ (c y = c x ∧ x < y) := by
  unfold cf orI cmpI
  repeat' split
  all_goals omega
theorem lt_iff (c : Int → Int) (x y : Int) : lt c x y = true ↔ c y < c x ∨ (c y = c x ∧ x < y) := by
  unfold lt
  rw [decide_eq_true_iff]
  exact cf_neg c x y
theorem lt_no (c : Int → Int) (x y : Int) : lt c x y = false ↔ ¬ (c y < c x ∨ (c y = c x ∧ x < y)) := by
  rw [← lt_iff c x y]
  simp
theorem swo (c : Int → Int) : SWO (lt c) where
  irrefl x := (lt_no c x x).2 (by omega)
  trans x y z h1 h2 := (lt_iff c x z).2 (by have := (lt_iff c x y).1 h1; have := (lt_iff c y z).1 h2; omega)
  ntrans x y z h1 h2 := (lt_no c x z).2 (by have := (lt_no c x y).1 h1; have := (lt_no c y z).1 h2; omega)
theorem total (c : Int → Int) (x y : Int) (h1 : lt c x y = false) (h2 : lt c y x = false) : x = y := by
  have := (lt_no c x y).1 h1
  have := (lt_no c y x).1 h2
  omega
end Go.Proofs.Ytjeaojolhdfpeaa.HotP
