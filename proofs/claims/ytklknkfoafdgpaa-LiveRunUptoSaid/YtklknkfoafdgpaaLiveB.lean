/- Sets of registers as eight words of 64 bits. -/
import Derived.Test.YtklknkfoafdgpaaLiveT
import Derived.Laws.BitsAllLaws
namespace Go.Proofs.Ytklknkfoafdgpaa.LiveB
open Go.Proofs.Ytklknkfoafdgpaa.LiveT
set_option linter.unusedVariables false
set_option linter.unusedSimpArgs false

def wd (S : RS) (i : Nat) : Nat → Nat
  | 0 => 0
  | k + 1 => wd S i k ||| (if S ((64 * i + k : Nat) : Int) = true then 2 ^ k else 0)
theorem testBit_wd (S : RS) (i k j : Nat) : (wd S i k).testBit j = (decide (j < k) && S ((64 * i + j : Nat) : Int)) := by
  induction k with
  | zero => simp [wd]
  | succ k ih =>
    rw [wd, Nat.testBit_or, ih]
    by_cases he : k = j
    · subst he
      by_cases hs : S ((64 * i + k : Nat) : Int) = true
      · rw [if_pos hs, Nat.testBit_two_pow_self, hs]; simp
      · rw [if_neg hs]; simp at hs; simp [hs]
    · have h2 : (if S ((64 * i + k : Nat) : Int) = true then 2 ^ k else 0).testBit j = false := by
        split
        · exact Nat.testBit_two_pow_of_ne he
        · exact Nat.zero_testBit j
      rw [h2, Bool.or_false]
      have : decide (j < k) = decide (j < k + 1) := by
        by_cases hj : j < k
        · simp [hj]; omega
        · have h3 : ¬ j < k + 1 := by omega
          simp [hj, h3]
      rw [this]
theorem wd_lt (S : RS) (i k : Nat) : wd S i k < 2 ^ k := by
  induction k with
  | zero => simp [wd]
  | succ k ih =>
    rw [wd]
    refine Nat.or_lt_two_pow ?_ ?_
    · exact Nat.lt_of_lt_of_le ih (Nat.pow_le_pow_right (by omega) (by omega))
    · split
      · exact Nat.pow_lt_pow_right (by omega) (by omega)
      · exact Nat.two_pow_pos _
def word (S : RS) (i : Nat) : Nat := wd S i 64
theorem word_lt (S : RS) (i : Nat) : word S i < 18446744073709551616 := wd_lt S i 64
theorem testBit_word (S : RS) (i j : Nat) : (word S i).testBit j = (decide (j < 64) && S ((64 * i + j : Nat) : Int)) := testBit_wd S i 64 j
theorem word_congr {S T : RS} {i : Nat} (h : ∀ j, j < 64 → S ((64 * i + j : Nat) : Int) = T ((64 * i + j : Nat) : Int)) : word S i = word T i := by
  apply Nat.eq_of_testBit_eq
  intro j
  rw [testBit_word, testBit_word]
  by_cases hj : j < 64
  · rw [h j hj]
  · simp [hj]
theorem word_inj {S T : RS} (hS : Regs S) (hT : Regs T) (h : ∀ i, i < 8 → word S i = word T i) : S = T := by
  funext r
  by_cases hr : inR r = true
  · have h' := hr
    simp only [inR, Bool.and_eq_true, decide_eq_true_eq] at h'
    have h1 := congrArg (fun n => n.testBit (r.toNat % 64)) (h (r.toNat / 64) (by omega))
    simp only [testBit_word] at h1
    have h2 : ((64 * (r.toNat / 64) + r.toNat % 64 : Nat) : Int) = r := by omega
    rw [h2, show decide (r.toNat % 64 < 64) = true from decide_eq_true (by omega), Bool.true_and, Bool.true_and] at h1
    exact h1
  · have a : S r = false := by
      cases hs : S r with
      | false => rfl
      | true => exact absurd (hS r hs) hr
    have b : T r = false := by
      cases hs : T r with
      | false => rfl
      | true => exact absurd (hT r hs) hr
    rw [a, b]
/-- No register. -/
def none' : RS := fun _ => false
theorem word_none (i : Nat) : word none' i = 0 := by
  apply Nat.eq_of_testBit_eq
  intro j
  rw [testBit_word]
  simp [none']
def addR (S : RS) (r : Int) : RS := fun x => S x || (inR r && x == r)
def delR (S : RS) (r : Int) : RS := fun x => S x && x != r
def join (S T : RS) : RS := fun x => S x || T x
theorem word_add (S : RS) (r i : Nat) (hr : r < 512) : word (addR S r) i = if i = r / 64 then word S i ||| 2 ^ (r % 64) else word S i := by
  have hin : inR (r : Int) = true := by simp [inR]; omega
  apply Nat.eq_of_testBit_eq
  intro j
  by_cases hi : i = r / 64
  · rw [if_pos hi, Nat.testBit_or, testBit_word, testBit_word]
    simp only [addR, hin, Bool.true_and]
    by_cases hj : j < 64
    · by_cases he : r % 64 = j
      · have h3 : (((64 * i + j : Nat) : Int) == (r : Int)) = true := by simp; omega
        rw [he, Nat.testBit_two_pow_self, h3]; simp [hj]
      · have h3 : (((64 * i + j : Nat) : Int) == (r : Int)) = false := by simp; omega
        rw [Nat.testBit_two_pow_of_ne he, h3]; simp
    · have : r % 64 ≠ j := by omega
      rw [Nat.testBit_two_pow_of_ne this]; simp [hj]
  · rw [if_neg hi]
    have hw : word (addR S r) i = word S i := word_congr fun j hj => by
      have h3 : (((64 * i + j : Nat) : Int) == (r : Int)) = false := by simp; omega
      simp only [addR, h3, Bool.and_false, Bool.or_false]
    rw [hw]
theorem word_del (S : RS) (r i : Nat) (hr : r < 512) : word (delR S r) i = if i = r / 64 then word S i &&& (18446744073709551615 - 2 ^ (r % 64)) else word S i := by
  apply Nat.eq_of_testBit_eq
  intro j
  by_cases hi : i = r / 64
  · rw [if_pos hi, Nat.testBit_and, testBit_word, testBit_word]
    simp only [delR]
    by_cases hj : j < 64
    · have hb : (18446744073709551615 - 2 ^ (r % 64)).testBit j = !decide (r % 64 = j) := by
        have h1 : 18446744073709551615 - 2 ^ (r % 64) = 2 ^ 64 - (2 ^ (r % 64) + 1) := by omega
        rw [h1, Nat.testBit_two_pow_sub_succ (Nat.pow_lt_pow_right (by omega) (by omega)), Nat.testBit_two_pow]
        simp [hj]
      rw [hb]
      by_cases he : r % 64 = j
      · have h3 : (((64 * i + j : Nat) : Int) != (r : Int)) = false := by simp; omega
        rw [h3]; simp [he]
      · have h3 : (((64 * i + j : Nat) : Int) != (r : Int)) = true := by simp; omega
        rw [h3]; simp [he]
    · simp [hj]
  · rw [if_neg hi]
    have hw : word (delR S r) i = word S i := word_congr fun j hj => by
      have h3 : (((64 * i + j : Nat) : Int) != (r : Int)) = true := by simp; omega
      simp only [delR, h3, Bool.and_true]
    rw [hw]
theorem word_join (S T : RS) (i : Nat) : word (join S T) i = word S i ||| word T i := by
  apply Nat.eq_of_testBit_eq
  intro j
  rw [Nat.testBit_or, testBit_word, testBit_word, testBit_word]
  simp only [join]
  cases decide (j < 64) <;> simp
theorem word_has (S : RS) (r : Nat) : word S (r / 64) / 2 ^ (r % 64) % 2 = if S (r : Int) = true then 1 else 0 := by
  have h := testBit_word S (r / 64) (r % 64)
  rw [show 64 * (r / 64) + r % 64 = r by omega, show decide (r % 64 < 64) = true from decide_eq_true (by omega), Bool.true_and, Nat.testBit_eq_decide_div_mod_eq] at h
  cases hs : S (r : Int) with
  | true => rw [hs] at h; simp at h; simp [h]
  | false => rw [hs] at h; simp at h; simp; omega
theorem addR_out (S : RS) (r : Int) (h : inR r = false) : addR S r = S := by funext x; simp [addR, h]
theorem delR_out {S : RS} (hS : Regs S) (r : Int) (h : inR r = false) : delR S r = S := by
  funext x
  simp only [delR]
  by_cases he : x = r
  · subst he
    cases hs : S x with
    | false => simp
    | true => rw [hS x hs] at h; exact absurd h (by decide)
  · simp [he]
theorem none_regs : Regs none' := fun r hr => by simp [none'] at hr
/-- The registers of a row of numbers, added. -/
def addL (S : RS) (l : List Int) : RS := l.foldl addR S
theorem addL_eq (S : RS) (l : List Int) : addL S l = fun x => S x || (inR x && l.contains x) := by
  induction l generalizing S with
  | nil => funext x; simp [addL]
  | cons y l ih =>
    show addL (addR S y) l = _
    rw [ih]
    funext x
    simp only [addR, List.contains_cons]
    by_cases he : x = y
    · subst he
      cases S x <;> cases inR x <;> simp
    · have hb : (x == y) = false := by simp [he]
      rw [hb]
      cases S x <;> cases inR x <;> simp
end Go.Proofs.Ytklknkfoafdgpaa.LiveB
