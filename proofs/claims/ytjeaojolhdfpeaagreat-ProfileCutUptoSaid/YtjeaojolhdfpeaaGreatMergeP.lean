/- Merge: what it comes to. No program is walked. -/
import Derived.Test.YtjeaojolhdfpeaaGreatBookB
import Derived.Test.YtjeaojolhdfpeaaGreatPProfileCutx2
import Derived.Test.YtjeaojolhdfpeaaGreatCutT
import Derived.Test.YtjeaojolhdfpeaaGreatPProfileCutx4
import Derived.Test.YtjeaojolhdfpeaaGreatPProfileCutx5
import Derived.Test.YtjeaojolhdfpeaaGreatCutK
namespace Go.Proofs.YtjeaojolhdfpeaaGreat.MergeP
open Go.RowKit Go.Maps Go.Proofs.YtjeaojolhdfpeaaGreatW.PrintWords Go.Proofs.YtjeaojolhdfpeaaGreatW.PrintLast Go.Proofs.YtjeaojolhdfpeaaGreatW.PrintMore
open Go.Proofs.YtjeaojolhdfpeaaGreat.PProfileCut Go.Proofs.YtjeaojolhdfpeaaGreat.BookB
set_option linter.unusedVariables false
set_option linter.unusedSimpArgs false

abbrev I64 (x : Int) : Prop := -9223372036854775808 ≤ x ∧ x ≤ 9223372036854775807
/-- The sum, or the end that it passes. -/
def adS (a b : Int) : Int := if a + b > 9223372036854775807 then 9223372036854775807 else if a + b < -9223372036854775808 then -9223372036854775808 else a + b
theorem added_code {a b : Int} (ha : I64 a) (hb : I64 b) : profile_added.f 1 a b = some (adS a b) := by
  obtain ⟨h1, h2⟩ := ha
  obtain ⟨h3, h4⟩ := hb
  unfold profile_added.f adS
  by_cases hp : b > 0
  · have e : wrap64 (9223372036854775807 - b) = 9223372036854775807 - b := by unfold wrap64; omega
    rw [if_pos hp, e]
    by_cases ho : a > 9223372036854775807 - b
    · rw [decide_eq_true ho, if_pos (by omega)]
      rfl
    · have e2 : wrap64 (a + b) = a + b := by unfold wrap64; omega
      rw [decide_eq_false ho, if_neg (by omega), if_neg (by omega)]
      show (if false = true then some 9223372036854775807 else if b < 0 then (if a < wrap64 (-9223372036854775808 - b) then some (-9223372036854775808) else some (wrap64 (a + b))) else some (wrap64 (a + b))) = some (a + b)
      rw [if_neg (by decide), if_neg (by omega), e2]
  · rw [if_neg hp]
    show (if false = true then some 9223372036854775807 else if b < 0 then (if a < wrap64 (-9223372036854775808 - b) then some (-9223372036854775808) else some (wrap64 (a + b))) else some (wrap64 (a + b))) = some (if a + b > 9223372036854775807 then 9223372036854775807 else if a + b < -9223372036854775808 then -9223372036854775808 else a + b)
    rw [if_neg (by decide)]
    by_cases hn : b < 0
    · have e : wrap64 (-9223372036854775808 - b) = -9223372036854775808 - b := by unfold wrap64; omega
      rw [if_pos hn, e]
      by_cases ho : a < -9223372036854775808 - b
      · rw [if_pos ho, if_neg (by omega), if_pos (by omega)]
      · have e2 : wrap64 (a + b) = a + b := by unfold wrap64; omega
        rw [if_neg ho, if_neg (by omega), if_neg (by omega), e2]
    · have e2 : wrap64 (a + b) = a + b := by unfold wrap64; omega
      rw [if_neg hn, if_neg (by omega), if_neg (by omega), e2]
def clM (a b : Int) : Int := if a = 0 then b else if b = 0 ∨ a = b then a else -1
theorem callees_code (a b : Int) : profile_callees.f a b = some (clM a b) := by
  unfold profile_callees.f clM
  repeat' split
  all_goals simp_all
theorem at_code (F : List (List S51)) (i j : Nat) : profile_At.f F (i : Int) (j : Int) = some ((gt F i j).f0, (gt F i j).f1, (gt F i j).f2, (gt F i j).f3) := by
  have hr : rd_L3 F (i : Int) = rw_ F i := rfl
  unfold profile_At.f
  rw [if_neg (by omega)]
  by_cases hi : i < F.length
  · rw [if_neg (by omega), if_neg (by omega), if_pos (by omega), if_pos (by omega), hr]
    by_cases hj : j < (rw_ F i).length
    · rw [if_neg (by omega), if_pos (by omega), if_pos (by omega)]
      rfl
    · rw [if_pos (by omega)]
      have : gt F i j = z51 := by
        unfold gt
        rw [List.getD_eq_getElem?_getD, List.getElem?_eq_none (by omega)]
        rfl
      rw [this]
      rfl
  · rw [if_pos (by omega)]
    have : gt F i j = z51 := by
      unfold gt rw_
      rw [List.getD_eq_getElem?_getD (l := F), List.getElem?_eq_none (by omega)]
      rfl
    rw [this]
    rfl
/-- Two spots in one. -/
def spM (x y : S51) : S51 := ⟨adS x.f0 y.f0, Go.bits .or .u16 x.f1 y.f1, Go.bits .or .u16 x.f2 y.f2, clM x.f3 y.f3⟩
/-- The row of length n, of which m spots are written. -/
def frow (a b : List (List S51)) (i m n : Nat) : List S51 := (List.range n).map fun j => if j < m then spM (gt a i j) (gt b i j) else z51
theorem frow_len (a b : List (List S51)) (i m n : Nat) : (frow a b i m n).length = n := by simp [frow]
theorem frow_zero (a b : List (List S51)) (i n : Nat) : List.replicate n z51 = frow a b i 0 n := by
  refine List.ext_getElem (by simp [frow]) (fun j h1 h2 => ?_)
  simp [frow]
theorem frow_set (a b : List (List S51)) (i m n : Nat) : (frow a b i m n).set m (spM (gt a i m) (gt b i m)) = frow a b i (m + 1) n := by
  refine List.ext_getElem (by simp [frow]) (fun j h1 h2 => ?_)
  simp only [frow, List.getElem_set, List.getElem_map, List.getElem_range]
  by_cases e : m = j
  · subst e
    rw [if_pos rfl, if_pos (by omega)]
  · rw [if_neg e]
    by_cases h : j < m
    · rw [if_pos h, if_pos (by omega)]
    · rw [if_neg h, if_neg (by omega)]
/-- How long row i becomes. -/
def rlen (a b : List (List S51)) (i : Nat) : Nat := max (rw_ a i).length (rw_ b i).length
def mrow (a b : List (List S51)) (i : Nat) : List S51 := frow a b i (rlen a b i) (rlen a b i)
def mpart (a b : List (List S51)) (k : Nat) : List (List S51) := (List.range k).map (mrow a b)
theorem mpart_len (a b : List (List S51)) (k : Nat) : (mpart a b k).length = k := by simp [mpart]
theorem mpart_succ (a b : List (List S51)) (k : Nat) : mpart a b (k + 1) = mpart a b k ++ [mrow a b k] := by
  simp [mpart, List.range_succ]
/-- What Merge answers. -/
def mergeF (a b : List (List S51)) : List (List S51) := mpart a b (max a.length b.length)
theorem rw_none {F : List (List S51)} {i : Nat} (h : F.length ≤ i) : rw_ F i = [] := by
  unfold rw_
  rw [List.getD_eq_getElem?_getD, List.getElem?_eq_none h]
  rfl
/-- How long the row is held to be, behind j of the two. -/
def nAt (a b : List (List S51)) (k : Nat) : Nat → Nat
  | 0 => 0
  | 1 => (rw_ a k).length
  | _ => rlen a b k
end Go.Proofs.YtjeaojolhdfpeaaGreat.MergeP
