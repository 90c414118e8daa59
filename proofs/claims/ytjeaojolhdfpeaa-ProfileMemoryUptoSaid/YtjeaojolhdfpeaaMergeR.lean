/- The reference's Merge and CopyProfile: what they come to. No program is walked. -/
import Derived.Test.YtjeaojolhdfpeaaMergeP
namespace Go.Proofs.Ytjeaojolhdfpeaa.MergeR
open Go.RowKit Go.Maps Go.Proofs.YtjeaojolhdfpeaaW.PrintWords Go.Proofs.YtjeaojolhdfpeaaW.PrintLast Go.Proofs.YtjeaojolhdfpeaaW.PrintMore
open Go.Proofs.Ytjeaojolhdfpeaa.PProfileMemory Go.Proofs.Ytjeaojolhdfpeaa.BookB Go.Proofs.Ytjeaojolhdfpeaa.MergeP
set_option linter.unusedVariables false
set_option linter.unusedSimpArgs false

theorem counts_code {a b : Int} (ha : I64 a) (hb : I64 b) : portageref18_counts.f 1 a b = some (adS a b) := by
  obtain ⟨h1, h2⟩ := ha
  obtain ⟨h3, h4⟩ := hb
  have hw : wrap64 (a + b) = if a + b > 9223372036854775807 then a + b - 18446744073709551616 else if a + b < -9223372036854775808 then a + b + 18446744073709551616 else a + b := by unfold wrap64; split <;> (try split) <;> omega
  unfold portageref18_counts.f adS
  rw [hw]
  have hj : ∀ s t, portageref18_counts.j0 1 a b s t = if t = true then some 9223372036854775807 else (if a < 0 then (if b < 0 then (if s ≥ 0 then some (-9223372036854775808) else some s) else some s) else some s) := fun _ _ => rfl
  simp only [hj]
  by_cases hp : a + b > 9223372036854775807
  · simp only [if_pos hp]
    rw [if_pos (by omega), if_pos (by omega), if_pos (by rw [decide_eq_true_eq]; omega)]
  · simp only [if_neg hp]
    by_cases hn : a + b < -9223372036854775808
    · simp only [if_pos hn]
      rw [if_neg (by omega), if_neg (by decide), if_pos (by omega), if_pos (by omega), if_pos (by omega)]
    · simp only [if_neg hn]
      by_cases h5 : a ≥ 0
      · rw [if_pos h5]
        by_cases h6 : b ≥ 0
        · rw [if_pos h6, if_neg (by rw [decide_eq_true_eq]; omega), if_neg (by omega)]
        · rw [if_neg h6, if_neg (by decide), if_neg (by omega)]
      · rw [if_neg h5, if_neg (by decide), if_pos (by omega)]
        by_cases h6 : b < 0
        · rw [if_pos h6, if_neg (by omega)]
        · rw [if_neg h6]
theorem rcallees_code (a b : Int) : portageref18_callees.f 1 a b = some (clM a b) := by
  have hj : ∀ t, portageref18_callees.j0 1 a b t = if t = true then some b else (if b = 0 then some a else some (-1)) := fun _ => rfl
  unfold portageref18_callees.f clM
  simp only [hj]
  by_cases h : a = 0
  · rw [if_pos h, if_pos trivial, if_pos h]
  · rw [if_neg h, if_neg h]
    by_cases h2 : a = b
    · rw [if_pos (beq_iff_eq.mpr h2), if_pos (.inr h2), h2]
    · rw [if_neg (by simpa using h2)]
      by_cases h3 : b = 0
      · rw [if_pos h3, if_pos (.inl h3)]
      · rw [if_neg h3, if_neg (fun h => h.elim h3 h2)]
theorem spots_ev (x y : S28) (hx : I64 x.f0) (hy : I64 y.f0) : Ev (fun k => portageref18_Spots.f k x.f0 x.f1 x.f2 x.f3 y.f0 y.f1 y.f2 y.f3) ((spM x y).f0, (spM x y).f1, (spM x y).f2, (spM x y).f3) :=
  Ev.of (fun k => portageref18_Spots.mono _ _ _ _ _ _ _ _ k) (k := 1) (by
    unfold portageref18_Spots.f
    rw [counts_code hx hy, rcallees_code]
    rfl)
theorem rat_code (F : List (List S28)) (i j : Nat) : portageref18_At.f F (i : Int) (j : Int) = some ((gt F i j).f0, (gt F i j).f1, (gt F i j).f2, (gt F i j).f3) := at_code F i j
theorem wrap_nat (i n : Nat) (h : i < n) (hn : n ≤ 9223372036854775807) : wrap64 ((i : Int) + 1) = ((i + 1 : Nat) : Int) := by unfold wrap64; omega
theorem frow_take (a b : List (List S28)) (i n j : Nat) (hj : j < n) : (frow a b i n n).take j ++ [spM (gt a i j) (gt b i j)] = (frow a b i n n).take (j + 1) := by
  rw [List.take_add_one, List.getElem?_eq_getElem (by rw [frow_len]; exact hj)]
  simp [frow, hj]
section
variable (a b : List (List S28)) (hga : ∀ i j, I64 (gt a i j).f0) (hgb : ∀ i j, I64 (gt b i j).f0)
theorem ref_l1 (hga : ∀ i j, I64 (gt a i j).f0) (hgb : ∀ i j, I64 (gt b i j).f0) (i n : Nat) (hn : n ≤ 1099511627776) (acc : List (List S28)) (hacc : acc.length ≤ 1099511627776) (r : List (List S28)) (hnext : Ev (fun k => portageref18_Merge.l0 k (wrap64 ((i : Int) + 1)) a b (acc ++ [frow a b i n n])) r) (d : Nat) :
    ∀ j : Nat, n - j = d → j ≤ n → Ev (fun k => portageref18_Merge.l1 k (i : Int) (n : Int) ((frow a b i n n).take j) (j : Int) a b acc) r := by
  induction d with
  | zero =>
    intro j hd hj
    obtain rfl : j = n := by omega
    refine Ev.step (fun k => ?_) hnext
    simp only [portageref18_Merge.l1]
    rw [if_neg (by omega), if_pos (by omega), List.take_of_length_le (by rw [frow_len]; exact Nat.le_refl _)]
  | succ d ih =>
    intro j hd hj
    have hjn : j < n := by omega
    have h1 := ih (j + 1) (by omega) (by omega)
    rw [← frow_take a b i n j hjn, ← wrap_nat j n hjn (by omega)] at h1
    refine Ev.step (f := fun k => (portageref18_Spots.f k (gt a i j).f0 (gt a i j).f1 (gt a i j).f2 (gt a i j).f3 (gt b i j).f0 (gt b i j).f1 (gt b i j).f2 (gt b i j).f3).bind fun v => portageref18_Merge.l1 k (i : Int) (n : Int) ((frow a b i n n).take j ++ [⟨v.1, v.2.1, v.2.2.1, v.2.2.2⟩]) (wrap64 ((j : Int) + 1)) a b acc) (fun k => ?_) (Ev.bind (spots_ev _ _ (hga i j) (hgb i j)) h1)
    have hl : ((frow a b i n n).take j).length < 5864062014805 := by rw [List.length_take, frow_len]; omega
    simp only [portageref18_Merge.l1, rat_code, Option.bind_some]
    rw [if_pos (by omega)]
    simp only [if_pos hl]
theorem ref_l0 (hga : ∀ i j, I64 (gt a i j).f0) (hgb : ∀ i j, I64 (gt b i j).f0) (hla : a.length ≤ 1099511627776) (hlb : b.length ≤ 1099511627776) (hxa : ∀ i, (rw_ a i).length ≤ 1099511627776) (hxb : ∀ i, (rw_ b i).length ≤ 1099511627776) (d : Nat) :
    ∀ i : Nat, max a.length b.length - i = d → i ≤ max a.length b.length → Ev (fun k => portageref18_Merge.l0 k (i : Int) a b (mpart a b i)) (mergeF a b) := by
  induction d with
  | zero =>
    intro i hd hi
    obtain rfl : i = max a.length b.length := by omega
    refine Ev.step (f := fun k => portageref18_Merge.j1 k ((max a.length b.length : Nat) : Int) false a b (mpart a b (max a.length b.length))) (fun k => ?_) ?_
    · simp only [portageref18_Merge.l0]
      rw [if_neg (by omega), decide_eq_false (by omega)]
    · exact Ev.step (f := fun _ => some (mergeF a b)) (fun k => rfl) (Ev.now _)
  | succ d ih =>
    intro i hd hi
    have hiN : i < max a.length b.length := by omega
    have hra : rd_L4 a (i : Int) = rw_ a i := rfl
    have hrb : rd_L4 b (i : Int) = rw_ b i := rfl
    have h1 := ih (i + 1) (by omega) (by omega)
    rw [mpart_succ, ← wrap_nat i _ hiN (by omega)] at h1
    have hrl : rlen a b i ≤ 1099511627776 := by have h1 := hxa i; have h2 := hxb i; unfold rlen; omega
    have h2 := ref_l1 a b hga hgb i (rlen a b i) hrl (mpart a b i) (by rw [mpart_len]; omega) _ h1 _ 0 rfl (Nat.zero_le _)
    rw [List.take_zero] at h2
    refine Ev.step (f := fun k => portageref18_Merge.j1 k (i : Int) true a b (mpart a b i)) (fun k => ?_) ?_
    · simp only [portageref18_Merge.l0]
      by_cases h : i < a.length
      · rw [if_pos (by omega)]
      · rw [if_neg (by omega), decide_eq_true (by omega)]
    refine Ev.step (f := fun k => portageref18_Merge.j2 k (i : Int) ((rw_ a i).length : Int) a b (mpart a b i)) (fun k => ?_) ?_
    · simp only [portageref18_Merge.j1, hra]
      rw [if_pos trivial]
      by_cases h : i < a.length
      · rw [if_pos (by omega), if_pos (by omega)]
      · rw [if_neg (by omega), rw_none (by omega)]
        rfl
    refine Ev.step (f := fun k => portageref18_Merge.j3 k (i : Int) ((rw_ a i).length : Int) (decide (((rw_ b i).length : Int) > ((rw_ a i).length : Int))) a b (mpart a b i)) (fun k => ?_) ?_
    · simp only [portageref18_Merge.j2, hrb]
      by_cases h : i < b.length
      · rw [if_pos (by omega), if_pos (by omega)]
      · rw [if_neg (by omega)]
        congr 1
        rw [rw_none (F := b) (by omega)]
        exact (decide_eq_false (by simp)).symm
    refine Ev.step (f := fun k => portageref18_Merge.j4 k (i : Int) ((rlen a b i : Nat) : Int) a b (mpart a b i)) (fun k => ?_) ?_
    · simp only [portageref18_Merge.j3, hrb]
      by_cases h : (rw_ b i).length > (rw_ a i).length
      · have hb : i < b.length := by
          by_cases hb : i < b.length
          · exact hb
          · rw [rw_none (F := b) (by omega)] at h
            simp at h
        rw [if_pos (by rw [decide_eq_true_eq]; omega), if_pos (by omega), if_pos (by omega)]
        congr 1
        unfold rlen
        omega
      · rw [if_neg (by rw [decide_eq_true_eq]; omega)]
        congr 1
        unfold rlen
        omega
    exact Ev.step (fun k => rfl) h2
end
theorem merge_ref (a b : List (List S28)) (hga : ∀ i j, I64 (gt a i j).f0) (hgb : ∀ i j, I64 (gt b i j).f0) (hla : a.length ≤ 1099511627776) (hlb : b.length ≤ 1099511627776) (hxa : ∀ i, (rw_ a i).length ≤ 1099511627776) (hxb : ∀ i, (rw_ b i).length ≤ 1099511627776) :
    ∃ k, portageref18_Merge.f k a b = some (mergeF a b) := (ref_l0 a b hga hgb hla hlb hxa hxb _ 0 rfl (Nat.zero_le _)).rounds
end Go.Proofs.Ytjeaojolhdfpeaa.MergeR
