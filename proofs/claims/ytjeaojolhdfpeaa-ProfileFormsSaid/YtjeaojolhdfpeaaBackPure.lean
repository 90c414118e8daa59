/- What was encoded is read back; what is cut off is short; what goes on is long. Plain lists and numbers. -/
import Derived.Test.YtjeaojolhdfpeaaDecode2
import Derived.Test.YtjeaojolhdfpeaaFormRef
namespace Go.Proofs.Ytjeaojolhdfpeaa.BackPure
open Go.RowKit Go.Proofs.YtjeaojolhdfpeaaW.PrintWords Go.Proofs.YtjeaojolhdfpeaaW.PrintMore
open Go.Proofs.Ytjeaojolhdfpeaa.PProfileForms Go.Proofs.Ytjeaojolhdfpeaa.Reader Go.Proofs.Ytjeaojolhdfpeaa.Methods Go.Proofs.Ytjeaojolhdfpeaa.SpotOf Go.Proofs.Ytjeaojolhdfpeaa.Decode
open Go.Proofs.Ytjeaojolhdfpeaa.Form (uv uv_small uv_big partB spotForm rowForm headForm form foldZ flagsOf Rg okProf many)
set_option linter.unusedVariables false
set_option linter.unusedSimpArgs false

/-- xs stands in bs from a on. -/
def Pre (bs : List Int) (a : Nat) (xs : List Int) : Prop := ∃ r, bs.drop a = xs ++ r
/-- bs ends within xs, which stands from a on. -/
def Cut (bs : List Int) (a : Nat) (xs : List Int) : Prop := ∃ r, r ≠ [] ∧ xs = bs.drop a ++ r
theorem Pre.app {bs xs ys : List Int} {a : Nat} (h : Pre bs a (xs ++ ys)) : Pre bs a xs ∧ Pre bs (a + xs.length) ys := by
  obtain ⟨r, h⟩ := h
  refine ⟨⟨ys ++ r, by rw [h, List.append_assoc]⟩, r, ?_⟩
  rw [← List.drop_drop, h, List.append_assoc, List.drop_left]
theorem Pre.cons {bs xs : List Int} {c : Int} {a : Nat} (h : Pre bs a (c :: xs)) : a < bs.length ∧ rd bs (a : Int) = c ∧ Pre bs (a + 1) xs := by
  obtain ⟨r, h⟩ := h
  have hlt : a < bs.length := by
    rcases Nat.lt_or_ge a bs.length with h1 | h1
    · exact h1
    · rw [List.drop_eq_nil_of_le h1] at h; cases h
  have h2 := List.drop_eq_getElem_cons hlt
  rw [h2] at h
  injection h with h3 h4
  refine ⟨hlt, ?_, r, h4⟩
  simpa [rd, List.getD_eq_getElem?_getD, List.getElem?_eq_getElem hlt] using h3
theorem Cut.app {bs xs ys : List Int} {a : Nat} (h : Cut bs a (xs ++ ys)) : Cut bs a xs ∨ (Pre bs a xs ∧ Cut bs (a + xs.length) ys) := by
  obtain ⟨r, hr, h⟩ := h
  rcases Nat.lt_or_ge (bs.drop a).length xs.length with hl | hl
  · left
    have e := congrArg (List.take xs.length) h
    rw [List.take_left, List.take_append, List.take_of_length_le (by omega)] at e
    refine ⟨r.take (xs.length - (bs.drop a).length), fun hn => ?_, e⟩
    have := congrArg List.length e
    rw [hn] at this
    simp at this hl
    omega
  · right
    have e := congrArg (List.take xs.length) h
    rw [List.take_left, List.take_append_of_le_length hl] at e
    have e2 := congrArg (List.drop xs.length) h
    rw [List.drop_left, List.drop_append_of_le_length hl, List.drop_drop] at e2
    refine ⟨⟨(bs.drop a).drop xs.length, ?_⟩, r, hr, e2⟩
    conv => lhs; rw [← List.take_append_drop xs.length (bs.drop a)]
    rw [← e]
theorem Cut.cons {bs xs : List Int} {c : Int} {a : Nat} (h : Cut bs a (c :: xs)) : bs.length ≤ a ∨ (a < bs.length ∧ rd bs (a : Int) = c ∧ Cut bs (a + 1) xs) := by
  rcases Nat.lt_or_ge a bs.length with h1 | h1
  · right
    have h' : Cut bs a ([c] ++ xs) := h
    rcases h'.app with hc | ⟨hp, hc⟩
    · obtain ⟨r, hr, e⟩ := hc
      have := congrArg List.length e
      have h2 : 0 < r.length := List.length_pos_iff.2 hr
      simp at this
      omega
    · obtain ⟨h2, h3, _⟩ := hp.cons
      exact ⟨h2, h3, hc⟩
  · exact .inl h1
/-! Numbers. -/
theorem pow_step (i : Nat) : (128 : Int) ^ (i + 1) = 128 ^ i * 128 := Int.pow_succ ..
/-! Spots. -/
def part (n : Nat) : List Int := if n = 0 then [] else uv n
theorem foldZ_zero (x : Int) : foldZ x = 0 ↔ x = 0 := by
  unfold foldZ
  split <;> omega
/-- A spot that is taken. -/
def Good (s : S28) : Prop := okSpot s = true ∧ Rg s
theorem good_unfold {s : S28} (h : Good s) : (0 ≤ s.f0 ∧ s.f0 ≤ 9223372036854775807) ∧ (0 ≤ s.f1 ∧ s.f1 ≤ 1023) ∧ (0 ≤ s.f2 ∧ s.f2 ≤ 1023) ∧ (-1 ≤ s.f3 ∧ s.f3 ≤ 128) := by
  obtain ⟨h1, h2⟩ := h
  simp only [okSpot, Bool.and_eq_true, decide_eq_true_eq] at h1
  unfold Rg at h2
  omega
theorem form_parts {s : S28} (h : Good s) : spotForm s = flagsOf s :: (part s.f0.toNat ++ (part s.f1.toNat ++ (part s.f2.toNat ++ part (foldZ s.f3).toNat))) := by
  have hg := good_unfold h
  have e0 : partB s.f0 = part s.f0.toNat := by
    unfold partB part
    have : s.f0 = 0 ↔ s.f0.toNat = 0 := by omega
    simp only [this]
  have e1 : partB s.f1 = part s.f1.toNat := by
    unfold partB part
    have : s.f1 = 0 ↔ s.f1.toNat = 0 := by omega
    simp only [this]
  have e2 : partB s.f2 = part s.f2.toNat := by
    unfold partB part
    have : s.f2 = 0 ↔ s.f2.toNat = 0 := by omega
    simp only [this]
  have hf : 0 ≤ foldZ s.f3 := by unfold foldZ; split <;> omega
  have e3 : (if s.f3 = 0 then ([] : List Int) else uv (foldZ s.f3).toNat) = part (foldZ s.f3).toNat := by
    unfold part
    have : s.f3 = 0 ↔ (foldZ s.f3).toNat = 0 := by rw [← foldZ_zero]; omega
    simp only [this]
  unfold spotForm
  rw [e0, e1, e2, e3]
  simp [List.append_assoc]
/-- A profile that is taken. -/
def GoodP (l : List (List S28)) : Prop := l.length ≤ 128 ∧ (∀ x ∈ l, x.length ≤ 2000) ∧ ∀ x ∈ l, ∀ s ∈ x, Good s
theorem form_tail (l : List (List S28)) : form l = magic ++ (uv l.length ++ l.flatMap rowForm) := by
  unfold form headForm magic
  rw [List.append_assoc]
end Go.Proofs.Ytjeaojolhdfpeaa.BackPure
