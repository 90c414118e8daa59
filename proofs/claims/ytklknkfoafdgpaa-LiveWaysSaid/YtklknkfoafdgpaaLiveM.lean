/- The plain law of ways: a register is wanted where some way asks for it ahead of a write. -/
import Derived.Test.YtklknkfoafdgpaaLiveT
namespace Go.Proofs.Ytklknkfoafdgpaa.LiveM
open Go.Proofs.Ytklknkfoafdgpaa.LiveT
set_option linter.unusedVariables false
set_option linter.unusedSimpArgs false

/-- What one row does to a register, but for what is taken out: 1: asked, 2: written first, 0: neither. -/
def al : List I → List Bool → Int → Int
  | x :: l, o :: os, r => if o = true then al l os r else if x.a r = true then 1 else if x.d = r then 2 else al l os r
  | _, _, _ => 0
section
variable {α : Type} (f : α → I)
theorem outs_map (l : List α) (S : RS) : outs id (l.map f) S = outs f l S := by
  induction l with
  | nil => rfl
  | cons x l ih => simp only [List.map_cons, outs, ih, id, List.map_id]
end

theorem back_al (l : List I) (S : RS) (r : Int) (hr : inR r = true) : back l S r = true ↔ al l (outs id l S) r = 1 ∨ al l (outs id l S) r = 0 ∧ S r = true := by
  induction l with
  | nil => simp [al, back]
  | cons x l ih =>
    simp only [outs, List.map_id, id_eq, back, al]
    by_cases hi : idle x (back l S) = true
    · rw [ahead_idle hi, if_pos hi]; exact ih
    · rw [if_neg hi]
      simp only [LiveT.ahead, if_neg hi, hr, Bool.true_and, Bool.or_eq_true, Bool.and_eq_true, bne_iff_ne]
      by_cases ha : x.a r = true
      · simp [ha]
      · rw [if_neg ha]
        by_cases hd : x.d = r
        · rw [if_pos hd]
          simp [ha, hd]
        · rw [if_neg hd, ← ih]
          simp only [ha, Bool.false_eq_true, or_false]
          exact ⟨fun h => h.1, fun h => ⟨h, fun he => hd he.symm⟩⟩
theorem back_al_le (l : List I) {S T : RS} (h : Le T S) (r : Int) (hr : back l T r = true) (hin : inR r = true) : al l (outs id l S) r = 1 ∨ al l (outs id l S) r = 0 ∧ T r = true := by
  induction l with
  | nil => exact .inr ⟨by simp [al], hr⟩
  | cons x l ih =>
    simp only [outs, List.map_id, id_eq, al]
    simp only [back] at hr
    by_cases hi : idle x (back l S) = true
    · rw [if_pos hi]
      rw [ahead_idle (idle_mono (back_mono _ h) hi)] at hr
      exact ih hr
    · rw [if_neg hi]
      by_cases ha : x.a r = true
      · rw [if_pos ha]; exact .inl rfl
      rw [if_neg ha]
      simp only [LiveT.ahead] at hr
      by_cases hi2 : idle x (back l T) = true
      · rw [if_pos hi2] at hr
        have hd : ¬ x.d = r := by
          intro he
          simp only [idle, Bool.and_eq_true, Bool.not_eq_true'] at hi2
          rw [he, hr] at hi2
          exact absurd hi2.2 (by decide)
        rw [if_neg hd]
        exact ih hr
      · rw [if_neg hi2] at hr
        simp only [Bool.or_eq_true, Bool.and_eq_true, bne_iff_ne] at hr
        rcases hr with hr | hr
        · rw [if_neg (fun he => hr.2 he.symm)]
          exact ih hr.1
        · exact absurd hr.2 ha

/-- Some way from the beginning of a block asks for a register. -/
inductive Way (c : List Blk) (o : Nat → List Bool) (r : Int) : Nat → Prop
  | here (n : Nat) (B : Blk) (h : c[n]? = some B) (h1 : al B.1 (o n) r = 1) : Way c o r n
  | step (n : Nat) (B : Blk) (h : c[n]? = some B) (h0 : al B.1 (o n) r = 0) (m : Nat) (hm : (m : Int) ∈ B.2) (hlt : m < c.length) (hw : Way c o r m) : Way c o r n

def outsOf (c : List Blk) (W : Nat → RS) (n : Nat) : List Bool := match c[n]? with | some B => outs id B.1 (endd c.length W B.2) | none => []
theorem way_wanted {c : List Blk} {W : Nat → RS} (h : Lfp c W) (r : Int) (hr : inR r = true) (n : Nat) (hn : n < c.length) : W n r = true ↔ Way c (outsOf c W) r n := by
  classical
  constructor
  · intro hw
    have := h.least (fun b r' => W b r' && decide (r' = r → Way c (outsOf c W) r b)) (fun b B hB r' hr' => by
      have hle : Le (endd c.length (fun b r' => W b r' && decide (r' = r → Way c (outsOf c W) r b)) B.2) (endd c.length W B.2) := endd_mono _ (fun n _ r hr => by simp only [Bool.and_eq_true] at hr; exact hr.1)
      have h1 : W b r' = true := by rw [h.fix b B hB]; exact back_mono _ hle r' hr'
      simp only [h1, Bool.true_and, decide_eq_true_eq]
      rintro rfl
      have ho : outsOf c W b = outs id B.1 (endd c.length W B.2) := by simp only [outsOf, hB]
      rcases back_al_le B.1 hle r' hr' hr with h2 | ⟨h2, h3⟩
      · exact .here b B hB (by rw [ho]; exact h2)
      · obtain ⟨m, hm, hlt, hP⟩ := endd_true.mp h3
        simp only [Bool.and_eq_true, decide_eq_true_eq] at hP
        exact .step b B hB (by rw [ho]; exact h2) m hm hlt (hP.2 trivial)) n hn r hw
    simp only [Bool.and_eq_true, decide_eq_true_eq] at this
    exact this.2 trivial
  · intro hw
    induction hw with
    | here n B hB h1 =>
      rw [h.fix n B hB]
      have ho : outsOf c W n = outs id B.1 (endd c.length W B.2) := by simp only [outsOf, hB]
      exact (back_al _ _ r hr).mpr (.inl (by rw [← ho]; exact h1))
    | step n B hB h0 m hm hlt hw ih =>
      rw [h.fix n B hB]
      have ho : outsOf c W n = outs id B.1 (endd c.length W B.2) := by simp only [outsOf, hB]
      exact (back_al _ _ r hr).mpr (.inr ⟨by rw [← ho]; exact h0, endd_true.mpr ⟨m, hm, hlt, ih hlt⟩⟩)
/-- Asked for on some way from within a block. -/
def Met (c : List Blk) (o : Nat → List Bool) (b i : Nat) (r : Int) : Prop := ∃ B, c[b]? = some B ∧ (al (B.1.drop i) ((o b).drop i) r = 1 ∨ al (B.1.drop i) ((o b).drop i) r = 0 ∧ ∃ m : Nat, (m : Int) ∈ B.2 ∧ m < c.length ∧ Way c o r m)
theorem outs_drop (l : List I) (S : RS) (i : Nat) : (outs id l S).drop i = outs id (l.drop i) S := by
  induction l generalizing i with
  | nil => simp [outs]
  | cons x l ih =>
    cases i with
    | zero => rfl
    | succ i => simp only [outs, List.drop_succ_cons, ih]
theorem met_wanted {c : List Blk} {W : Nat → RS} (h : Lfp c W) (r : Int) (hr : inR r = true) (b i : Nat) (B : Blk) (hB : c[b]? = some B) : Met c (outsOf c W) b i r ↔ back (B.1.drop i) (endd c.length W B.2) r = true := by
  have ho : outsOf c W b = outs id B.1 (endd c.length W B.2) := by simp only [outsOf, hB]
  rw [back_al _ _ r hr]
  constructor
  · rintro ⟨B', hB', hh⟩
    rw [hB] at hB'
    cases hB'
    rw [ho, outs_drop] at hh
    rcases hh with hh | ⟨h0, m, hm, hlt, hw⟩
    · exact .inl hh
    · exact .inr ⟨h0, endd_true.mpr ⟨m, hm, hlt, (way_wanted h r hr m hlt).mpr hw⟩⟩
  · intro hh
    refine ⟨B, hB, ?_⟩
    rw [ho, outs_drop]
    rcases hh with hh | ⟨h0, h1⟩
    · exact .inl hh
    · obtain ⟨m, hm, hlt, hw⟩ := endd_true.mp h1
      exact .inr ⟨h0, m, hm, hlt, (way_wanted h r hr m hlt).mp hw⟩
/-- A set of blocks that the ways do not lead out of, in which nothing asks, holds no way. -/
theorem way_closed {c : List Blk} {o : Nat → List Bool} {r : Int} (V : Nat → Prop) (h1 : ∀ n B, V n → c[n]? = some B → al B.1 (o n) r ≠ 1) (h2 : ∀ n B, V n → c[n]? = some B → al B.1 (o n) r = 0 → ∀ m : Nat, (m : Int) ∈ B.2 → m < c.length → V m) {n : Nat} (hn : V n) : ¬ Way c o r n := by
  intro hw
  induction hw with
  | here n B hB h => exact h1 n B hn hB h
  | step n B hB h0 m hm hlt hw ih => exact ih (h2 n B hn hB h0 m hm hlt)
end Go.Proofs.Ytklknkfoafdgpaa.LiveM
