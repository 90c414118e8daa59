/- The chapter's example, in plain words; every code has an answer. -/
import Derived.Test.YtklknkfoafdgpaaLiveRunP
namespace Go.Proofs.Ytklknkfoafdgpaa.LiveKn
open Go.RowKit Go.Proofs.YtklknkfoafdgpaaW.PrintWords
open Go.Proofs.Ytklknkfoafdgpaa.PLiveKnown Go.Proofs.Ytklknkfoafdgpaa.LiveT Go.Proofs.Ytklknkfoafdgpaa.LiveB Go.Proofs.Ytklknkfoafdgpaa.LiveAhead Go.Proofs.Ytklknkfoafdgpaa.LiveSettled Go.Proofs.Ytklknkfoafdgpaa.LiveCopied Go.Proofs.Ytklknkfoafdgpaa.LiveAft Go.Proofs.Ytklknkfoafdgpaa.LiveRunP
set_option linter.unusedVariables false
set_option linter.unusedSimpArgs false

theorem lfp_exists (c : List Blk) : ∃ V, Lfp c V := by
  classical
  let V : Nat → RS := fun b r => decide (∀ P, Pre c P → P b r = true)
  have hle : ∀ P, Pre c P → ∀ b, Le (V b) (P b) := fun P hP b r hr => (of_decide_eq_true hr) P hP
  have hpre : Pre c V := by
    intro b B hB r hr
    apply decide_eq_true
    intro P hP
    exact hP b B hB r (back_mono B.1 (endd_mono B.2 (fun n _ => hle P hP n)) r hr)
  refine ⟨V, ⟨fun b B hB => ?_, fun P hP b _ => hle P hP b⟩⟩
  apply le_antisymm'
  · have hQ : Pre c (fun b r => match c[b]? with | some B => back B.1 (endd c.length V B.2) r | none => true) := by
      intro b' B' hB' r hr
      simp only [hB']
      refine back_mono B'.1 (endd_mono B'.2 (fun n hn r hr => ?_)) r hr
      cases hc : c[n]? with
      | none => rw [List.getElem?_eq_none_iff] at hc; omega
      | some Bn =>
        simp only [hc] at hr
        exact hpre n Bn hc r hr
    intro r hr
    have := hle _ hQ b r hr
    simp only [hB] at this
    exact this
  · exact hpre b B hB

def kIns0 : List S47 := [⟨1, 0, 2, [⟨0, 0⟩], 0, 0, 0, []⟩, ⟨2, 12, 3, [⟨0, 2⟩, ⟨3, 5⟩], 2, 0, 0, []⟩, ⟨1, 0, 2, [⟨1, 0⟩], 0, 0, 0, []⟩, ⟨6, 0, -1, [], 0, 0, 0, [⟨0, 0, [⟨0, 0⟩, ⟨0, 2⟩]⟩]⟩, ⟨7, 0, -1, [], 0, 0, 0, []⟩]
def kIns1 : List S47 := [⟨6, 0, -1, [], 0, 0, 0, [⟨0, 0, [⟨0, 0⟩, ⟨0, 1⟩]⟩]⟩, ⟨9, 0, -1, [], 0, 0, 0, [⟨0, 0, [⟨0, 0⟩, ⟨0, 1⟩]⟩]⟩]
def kV1 : RS := back (kIns1.map iOf) none'
theorem kV1_eq (r : Int) : kV1 r = (inR r && (r == 0 || r == 1)) := by
  have h : ∀ r : Int, kV1 r = ((((none' r && r != -1) || (inR r && asks47 ⟨9, 0, -1, [], 0, 0, 0, [⟨0, 0, [⟨0, 0⟩, ⟨0, 1⟩]⟩]⟩ r)) && r != -1) || (inR r && asks47 ⟨6, 0, -1, [], 0, 0, 0, [⟨0, 0, [⟨0, 0⟩, ⟨0, 1⟩]⟩]⟩ r)) := fun r => rfl
  rw [h]
  have ha : ∀ o : Int, asks47 ⟨o, 0, -1, [], 0, 0, 0, [⟨0, 0, [⟨0, 0⟩, ⟨0, 1⟩]⟩]⟩ r = (r == 0 || r == 1) := fun o => by
    simp [asks47, regsOf]
    rfl
  rw [ha, ha]
  simp only [none']
  by_cases h0 : r = 0
  · subst h0; rfl
  · by_cases h1 : r = 1
    · subst h1; rfl
    · simp [h0, h1]
def kB3 : RS := back ((kIns0.drop 4).map iOf) kV1
def kB2 : RS := back ((kIns0.drop 3).map iOf) kV1
theorem kB3_eq (r : Int) : kB3 r = (inR r && (r == 0 || r == 1)) := by
  have h : kB3 r = ((kV1 r && r != -1) || (inR r && asks47 ⟨7, 0, -1, [], 0, 0, 0, []⟩ r)) := rfl
  rw [h, kV1_eq]
  have ha : asks47 ⟨7, 0, -1, [], 0, 0, 0, []⟩ r = false := rfl
  rw [ha]
  by_cases h0 : r = -1
  · subst h0; rfl
  · simp [h0]
theorem kB2_eq (r : Int) : kB2 r = (inR r && (r == 0 || r == 1 || r == 2)) := by
  have h : kB2 r = ((kB3 r && r != -1) || (inR r && asks47 ⟨6, 0, -1, [], 0, 0, 0, [⟨0, 0, [⟨0, 0⟩, ⟨0, 2⟩]⟩]⟩ r)) := rfl
  rw [h, kB3_eq]
  have ha : asks47 ⟨6, 0, -1, [], 0, 0, 0, [⟨0, 0, [⟨0, 0⟩, ⟨0, 2⟩]⟩]⟩ r = (r == 0 || r == 2) := by
    simp [asks47, regsOf]
    rfl
  rw [ha]
  by_cases h0 : r = -1
  · subst h0; rfl
  · have hb : (r != -1) = true := bne_iff_ne.mpr h0
    rw [hb]
    cases inR r <;> cases (r == 0) <;> cases (r == 1) <;> cases (r == 2) <;> rfl
theorem kS2 : idle (iOf ⟨1, 0, 2, [⟨1, 0⟩], 0, 0, 0, []⟩) kB2 = false := by
  have : kB2 2 = true := by rw [kB2_eq]; rfl
  simp [idle, iOf, q47, this]
end Go.Proofs.Ytklknkfoafdgpaa.LiveKn
