/- How the answer is come to: from nothing, growing, below every other; how much is still to come. -/
import Derived.Test.YtklknkfoafdgpaaLiveB
namespace Go.Proofs.Ytklknkfoafdgpaa.LiveInv
open Go.Proofs.Ytklknkfoafdgpaa.LiveT Go.Proofs.Ytklknkfoafdgpaa.LiveB
set_option linter.unusedVariables false
set_option linter.unusedSimpArgs false

structure Inv (c : List Blk) (V : Nat → RS) : Prop where
  up : ∀ b B, c[b]? = some B → Le (V b) (back B.1 (endd c.length V B.2))
  low : ∀ P, Pre c P → ∀ b, b < c.length → Le (V b) (P b)
  regs : ∀ b, b < c.length → Regs (V b)
theorem Inv.start (c : List Blk) : Inv c (fun _ => none') := ⟨fun _ _ _ r h => by simp [none'] at h, fun _ _ _ _ r h => by simp [none'] at h, fun _ _ => none_regs⟩
def put (V : Nat → RS) (b : Nat) (S : RS) : Nat → RS := fun i => if i = b then S else V i
theorem Inv.put {c : List Blk} {V : Nat → RS} (h : Inv c V) {b : Nat} {B : Blk} (hB : c[b]? = some B) : Inv c (put V b (back B.1 (endd c.length V B.2))) ∧ (∀ i, i < c.length → Le (V i) (LiveInv.put V b (back B.1 (endd c.length V B.2)) i)) := by
  have hb : b < c.length := (List.getElem?_eq_some_iff.mp hB).1
  have hle : ∀ i, i < c.length → Le (V i) (LiveInv.put V b (back B.1 (endd c.length V B.2)) i) := by
    intro i hi
    simp only [LiveInv.put]
    split
    · rename_i he
      subst he
      exact h.up i B hB
    · exact Le.rfl'
  refine ⟨⟨?_, ?_, ?_⟩, hle⟩
  · intro i B' hB'
    have hm := back_mono B'.1 (endd_mono B'.2 hle)
    by_cases he : i = b
    · subst he
      rw [hB] at hB'
      cases hB'
      simp only [LiveInv.put, if_pos]
      exact hm
    · simp only [LiveInv.put, if_neg he]
      exact Le.trans' (h.up i B' hB') hm
  · intro P hP i hi
    by_cases he : i = b
    · subst he
      simp only [LiveInv.put, if_pos]
      exact Le.trans' (back_mono B.1 (endd_mono B.2 (h.low P hP))) (hP i B hB)
    · simp only [LiveInv.put, if_neg he]
      exact h.low P hP i hi
  · intro i hi
    by_cases he : i = b
    · subst he
      simp only [LiveInv.put, if_pos]
      exact back_regs B.1 (endd_regs B.2 h.regs)
    · simp only [LiveInv.put, if_neg he]
      exact h.regs i hi
theorem Inv.done {c : List Blk} {V : Nat → RS} (h : Inv c V) (hf : ∀ b B, c[b]? = some B → V b = back B.1 (endd c.length V B.2)) : Lfp c V := ⟨hf, h.low⟩

/-- How many registers are wanted. -/
def cnt1 (S : RS) : Nat → Nat
  | 0 => 0
  | k + 1 => cnt1 S k + (if S (k : Int) = true then 1 else 0)
def cnt (V : Nat → RS) : Nat → Nat
  | 0 => 0
  | n + 1 => cnt V n + cnt1 (V n) 512
theorem cnt1_le (S : RS) (k : Nat) : cnt1 S k ≤ k := by
  induction k with
  | zero => exact Nat.le_refl _
  | succ k ih => simp only [cnt1]; split <;> omega
theorem cnt1_mono {S T : RS} (h : Le S T) (k : Nat) : cnt1 S k ≤ cnt1 T k := by
  induction k with
  | zero => exact Nat.le_refl _
  | succ k ih =>
    simp only [cnt1]
    by_cases hs : S (k : Int) = true
    · rw [if_pos hs, if_pos (h _ hs)]; omega
    · rw [if_neg hs]; omega
theorem cnt1_lt {S T : RS} (h : Le S T) (k r : Nat) (hr : r < k) (hs : S (r : Int) = false) (ht : T (r : Int) = true) : cnt1 S k < cnt1 T k := by
  induction k with
  | zero => omega
  | succ k ih =>
    simp only [cnt1]
    by_cases he : r = k
    · subst he
      rw [if_pos ht, hs]
      have := cnt1_mono h r
      simp; omega
    · have := ih (by omega)
      by_cases hs : S (k : Int) = true
      · rw [if_pos hs, if_pos (h _ hs)]; omega
      · rw [if_neg hs]; omega
theorem cnt_le (V : Nat → RS) (n : Nat) : cnt V n ≤ n * 512 := by
  induction n with
  | zero => exact Nat.le_refl _
  | succ n ih => simp only [cnt]; have := cnt1_le (V n) 512; omega
theorem cnt_mono {V W : Nat → RS} (n : Nat) (h : ∀ i, i < n → Le (V i) (W i)) : cnt V n ≤ cnt W n := by
  induction n with
  | zero => exact Nat.le_refl _
  | succ n ih =>
    simp only [cnt]
    have h1 := ih (fun i hi => h i (by omega))
    have h2 := cnt1_mono (h n (by omega)) 512
    omega
theorem cnt_lt {V W : Nat → RS} (n : Nat) (h : ∀ i, i < n → Le (V i) (W i)) (b : Nat) (hb : b < n) (hR : Regs (W b)) (hne : V b ≠ W b) : cnt V n < cnt W n := by
  have hex : ∃ r : Nat, r < 512 ∧ V b (r : Int) = false ∧ W b (r : Int) = true := by
    apply Classical.byContradiction
    intro hno
    apply hne
    apply le_antisymm' (h b hb)
    intro r hr
    have h1 := hR r hr
    simp only [inR, Bool.and_eq_true, decide_eq_true_eq] at h1
    cases hv : V b r with
    | true => rfl
    | false => exact absurd ⟨r.toNat, by omega, by rw [show (r.toNat : Int) = r by omega]; exact hv, by rw [show (r.toNat : Int) = r by omega]; exact hr⟩ hno
  obtain ⟨r, hr, h0, h1⟩ := hex
  induction n with
  | zero => omega
  | succ n ih =>
    simp only [cnt]
    by_cases he : b = n
    · subst he
      have h2 := cnt_mono b (fun i hi => h i (by omega))
      have h3 := cnt1_lt (h b hb) 512 r hr h0 h1
      omega
    · have h2 := ih (fun i hi => h i (by omega)) (by omega)
      have h3 := cnt1_mono (h n (by omega)) 512
      omega
end Go.Proofs.Ytklknkfoafdgpaa.LiveInv
