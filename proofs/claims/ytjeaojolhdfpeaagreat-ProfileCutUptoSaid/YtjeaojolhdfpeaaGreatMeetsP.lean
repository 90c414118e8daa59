/- ProfileMeets: what Merge comes to hangs on no order and no brackets, and nothing changes nothing; what counted tells. No program is walked. -/
import Derived.Test.YtjeaojolhdfpeaaGreatMergeP
import Derived.Test.YtjeaojolhdfpeaaGreatFormRef
import Derived.OpenShut
import Derived.Laws.BitsAllLaws
namespace Go.Proofs.YtjeaojolhdfpeaaGreat.MeetsP
open Go.RowKit Go.Maps Go.Proofs.YtjeaojolhdfpeaaGreatW.PrintWords Go.Proofs.YtjeaojolhdfpeaaGreatW.PrintLast Go.Proofs.YtjeaojolhdfpeaaGreatW.PrintMore
open Go.Proofs.YtjeaojolhdfpeaaGreat.PProfileCut Go.Proofs.YtjeaojolhdfpeaaGreat.BookB Go.Proofs.YtjeaojolhdfpeaaGreat.MergeP
open Go.Proofs.YtjeaojolhdfpeaaGreat.Form (Rg)
set_option linter.unusedVariables false
set_option linter.unusedSimpArgs false

abbrev RgP (l : List (List S51)) : Prop := ∀ x ∈ l, ∀ s ∈ x, Rg s
abbrev U16 (x : Int) : Prop := 0 ≤ x ∧ x ≤ 65535
theorem or_comm16 {x y : Int} (hx : U16 x) (hy : U16 y) : Go.bits .or .u16 x y = Go.bits .or .u16 y x := by
  rw [u16_or x y hx.1 (by have := hx.2; omega) hy.1 (by have := hy.2; omega), u16_or y x hy.1 (by have := hy.2; omega) hx.1 (by have := hx.2; omega), Nat.or_comm]
theorem or_assoc16 {x y z : Int} (hx : U16 x) (hy : U16 y) (hz : U16 z) : Go.bits .or .u16 (Go.bits .or .u16 x y) z = Go.bits .or .u16 x (Go.bits .or .u16 y z) := by
  obtain ⟨a, rfl⟩ := Int.eq_ofNat_of_zero_le hx.1
  obtain ⟨b, rfl⟩ := Int.eq_ofNat_of_zero_le hy.1
  obtain ⟨c, rfl⟩ := Int.eq_ofNat_of_zero_le hz.1
  have ha : a < 65536 := by have := hx.2; omega
  have hb : b < 65536 := by have := hy.2; omega
  have hc : c < 65536 := by have := hz.2; omega
  have h1 : a ||| b < 2 ^ 16 := Nat.or_lt_two_pow (by omega) (by omega)
  have h2 : b ||| c < 2 ^ 16 := Nat.or_lt_two_pow (by omega) (by omega)
  rw [u16_or_nat a b ha hb, u16_or_nat b c hb hc, u16_or_nat _ c (by omega) hc, u16_or_nat a _ ha (by omega), Nat.or_assoc]
theorem or_zero16 {x : Int} (hx : U16 x) : Go.bits .or .u16 x 0 = x := by
  obtain ⟨a, rfl⟩ := Int.eq_ofNat_of_zero_le hx.1
  have ha : a < 65536 := by have := hx.2; omega
  have h := u16_or_nat a 0 ha (by omega)
  simpa using h
theorem clM_comm (a b : Int) : clM a b = clM b a := by
  unfold clM
  repeat' split
  all_goals omega
theorem clM_assoc (a b c : Int) : clM (clM a b) c = clM a (clM b c) := by
  unfold clM
  repeat' split
  all_goals omega
theorem clM_zero (a : Int) : clM a 0 = a := by
  unfold clM
  repeat' split
  all_goals omega
theorem adS_comm (a b : Int) : adS a b = adS b a := by
  unfold adS
  rw [Int.add_comm]
theorem adS_assoc {a b c : Int} (ha : 0 ≤ a) (hb : 0 ≤ b) (hc : 0 ≤ c) : adS (adS a b) c = adS a (adS b c) := by
  unfold adS
  repeat' split
  all_goals omega
theorem adS_zero {a : Int} (ha : I64 a) : adS a 0 = a := by
  obtain ⟨h1, h2⟩ := ha
  unfold adS
  repeat' split
  all_goals omega
theorem spM_zero {x : S51} (hx : Rg x) : spM x z51 = x := by
  show (⟨adS x.f0 0, Go.bits .or .u16 x.f1 0, Go.bits .or .u16 x.f2 0, clM x.f3 0⟩ : S51) = x
  rw [adS_zero hx.1, or_zero16 hx.2.1, or_zero16 hx.2.2.1, clM_zero]
theorem z_Rg : Rg z51 := by
  unfold Rg
  decide
theorem gt_Rg {l : List (List S51)} (h : RgP l) (i j : Nat) : Rg (gt l i j) := by
  have hz := z_Rg
  unfold gt rw_
  simp only [List.getD_eq_getElem?_getD]
  by_cases h1 : i < l.length
  · rw [List.getElem?_eq_getElem h1, Option.getD_some]
    by_cases h2 : j < l[i].length
    · rw [List.getElem?_eq_getElem h2, Option.getD_some]
      exact h _ (List.getElem_mem h1) _ (List.getElem_mem h2)
    · rw [List.getElem?_eq_none (by omega)]
      exact hz
  · rw [show l[i]? = none from List.getElem?_eq_none (by omega)]
    exact hz
theorem or_u16 (x y : Int) : U16 (Go.bits .or .u16 x y) := by
  have h := wf_bits .or .u16 x y
  have h2 : 0 ≤ Go.bits .or .u16 x y ∧ Go.bits .or .u16 x y ≤ 65535 := by simpa [Lit.wf, IntKind.min, IntKind.max, IntKind.signed, IntKind.bits] using h
  exact h2
theorem merge_len (a b : List (List S51)) : (mergeF a b).length = max a.length b.length := mpart_len _ _ _
theorem rw_merge {a b : List (List S51)} {i : Nat} (hi : i < max a.length b.length) : rw_ (mergeF a b) i = mrow a b i := by
  simp [rw_, mergeF, mpart, List.getD_eq_getElem?_getD, hi]
theorem row_len (a b : List (List S51)) (i : Nat) : (rw_ (mergeF a b) i).length = rlen a b i := by
  by_cases hi : i < max a.length b.length
  · rw [rw_merge hi]
    exact frow_len _ _ _ _ _
  · rw [rw_none (by rw [merge_len]; omega)]
    unfold rlen
    rw [rw_none (show a.length ≤ i by omega), rw_none (show b.length ≤ i by omega)]
    rfl
theorem gt_out {F : List (List S51)} {i j : Nat} (h : (rw_ F i).length ≤ j) : gt F i j = z51 := by
  unfold gt
  rw [List.getD_eq_getElem?_getD, List.getElem?_eq_none h]
  rfl
theorem gt_merge (a b : List (List S51)) (i j : Nat) : gt (mergeF a b) i j = spM (gt a i j) (gt b i j) := by
  by_cases hj : j < rlen a b i
  · have hi : i < max a.length b.length := by
      refine Nat.lt_of_not_le fun h => ?_
      unfold rlen at hj
      rw [rw_none (show a.length ≤ i by omega), rw_none (show b.length ≤ i by omega)] at hj
      exact absurd hj (Nat.not_lt_zero _)
    have h1 : gt (mergeF a b) i j = (mrow a b i).getD j z51 := by
      unfold gt
      rw [rw_merge hi]
    rw [h1]
    simp [mrow, frow, List.getD_eq_getElem?_getD, hj]
  · rw [gt_out (by rw [row_len]; omega), gt_out (F := a) (by unfold rlen at hj; omega), gt_out (F := b) (by unfold rlen at hj; omega), spM_zero z_Rg]
/-- No count is below 0. -/
def Cn (l : List (List S51)) : Prop := ∀ i j, 0 ≤ (gt l i j).f0
theorem row_max (a b : List (List S51)) {m : Nat} (ha : ∀ x ∈ a, x.length ≤ m) (hb : ∀ x ∈ b, x.length ≤ m) : ∀ x ∈ mergeF a b, x.length ≤ m := by
  have key : ∀ (F : List (List S51)), (∀ x ∈ F, x.length ≤ m) → ∀ i, (rw_ F i).length ≤ m := fun F h i => by
    by_cases hi : i < F.length
    · have e : rw_ F i = F[i] := by simp [rw_, List.getD_eq_getElem?_getD, hi]
      rw [e]
      exact h _ (List.getElem_mem hi)
    · rw [rw_none (by omega)]
      exact Nat.zero_le _
  intro x hx
  unfold mergeF mpart at hx
  obtain ⟨i, _, rfl⟩ := List.mem_map.1 hx
  have h1 : (mrow a b i).length = rlen a b i := frow_len _ _ _ _ _
  rw [h1]
  have := key a ha i
  have := key b hb i
  unfold rlen
  omega
/-! What counted tells. -/
theorem wrap_nat (i n : Nat) (h : i < n) (hn : n ≤ 9223372036854775807) : wrap64 ((i : Int) + 1) = ((i + 1 : Nat) : Int) := by unfold wrap64; omega
theorem counted_l1 (l : List (List S51)) (i : Nat) (hi : i < l.length) (hn : (rw_ l i).length ≤ 9223372036854775807)
    (hnext : ∃ r, Ev (fun k => portagelaw18_counted.l0 k (wrap64 ((i : Int) + 1)) l) r ∧ (r = true → ∀ a b, i + 1 ≤ a → 0 ≤ (gt l a b).f0)) (e : Nat) : ∀ j : Nat, (rw_ l i).length - j = e →
    ∃ r, Ev (fun k => portagelaw18_counted.l1 k (i : Int) (j : Int) l) r ∧ (r = true → (∀ b, j ≤ b → 0 ≤ (gt l i b).f0) ∧ ∀ a b, i + 1 ≤ a → 0 ≤ (gt l a b).f0) := by
  have hrd : rd_L3 l (i : Int) = rw_ l i := rfl
  induction e with
  | zero =>
    intro j hj
    obtain ⟨r, h1, h2⟩ := hnext
    refine ⟨r, Ev.step (fun k => by simp only [portagelaw18_counted.l1]; rw [if_pos (by omega), if_pos (by omega), hrd, if_neg (by omega)]) h1, fun hr => ⟨fun b hb => ?_, h2 hr⟩⟩
    rw [gt_out (by omega)]
    decide
  | succ e ih =>
    intro j hj
    by_cases hneg : (gt l i j).f0 < 0
    · refine ⟨false, Ev.step (fun k => ?_) (Ev.now false), fun h => by cases h⟩
      simp only [portagelaw18_counted.l1]
      rw [if_pos (by omega), if_pos (by omega), hrd, if_pos (by omega), if_pos (by omega)]
      exact if_pos hneg
    · obtain ⟨r, h1, h2⟩ := ih (j + 1) (by omega)
      refine ⟨r, Ev.step (fun k => ?_) h1, fun hr => ⟨fun b hb => ?_, (h2 hr).2⟩⟩
      · simp only [portagelaw18_counted.l1]
        rw [if_pos (by omega), if_pos (by omega), hrd, if_pos (by omega), if_pos (by omega), wrap_nat j _ (by omega) hn]
        exact if_neg hneg
      · by_cases hb2 : b = j
        · subst hb2
          omega
        · exact (h2 hr).1 b (by omega)
theorem counted_l0 (l : List (List S51)) (hl : l.length ≤ 9223372036854775807) (hn : ∀ i, (rw_ l i).length ≤ 9223372036854775807) (d : Nat) : ∀ i : Nat, l.length - i = d →
    ∃ r, Ev (fun k => portagelaw18_counted.l0 k (i : Int) l) r ∧ (r = true → ∀ a b, i ≤ a → 0 ≤ (gt l a b).f0) := by
  induction d with
  | zero =>
    intro i hi
    refine ⟨true, Ev.step (fun k => by simp only [portagelaw18_counted.l0]; rw [if_neg (by omega)]) (Ev.now true), fun _ a b ha => ?_⟩
    rw [gt_out (by rw [rw_none (by omega)]; exact Nat.zero_le _)]
    decide
  | succ d ih =>
    intro i hi
    obtain ⟨r, h1, h2⟩ := counted_l1 l i (by omega) (hn i) (by rw [wrap_nat i _ (by omega) hl]; exact ih (i + 1) (by omega)) _ 0 rfl
    refine ⟨r, Ev.step (fun k => by simp only [portagelaw18_counted.l0]; rw [if_pos (by omega)]; rfl) h1, fun hr a b ha => ?_⟩
    by_cases ha2 : a = i
    · subst ha2
      exact (h2 hr).1 b (Nat.zero_le _)
    · exact (h2 hr).2 a b (by omega)
theorem counted_some (l : List (List S51)) (hl : l.length ≤ 9223372036854775807) (hn : ∀ x ∈ l, x.length ≤ 9223372036854775807) : ∃ k r, portagelaw18_counted.f k l = some r ∧ (r = true → Cn l) := by
  obtain ⟨r, h1, h2⟩ := counted_l0 l hl (fun i => by
    by_cases hi : i < l.length
    · have e : rw_ l i = l[i] := by simp [rw_, List.getD_eq_getElem?_getD, hi]
      rw [e]
      exact hn _ (List.getElem_mem hi)
    · rw [rw_none (by omega)]
      exact Nat.zero_le _) _ 0 rfl
  obtain ⟨k, hk⟩ := h1.rounds
  exact ⟨k, r, hk, fun hr i j => h2 hr i j (Nat.zero_le _)⟩
end Go.Proofs.YtjeaojolhdfpeaaGreat.MeetsP
