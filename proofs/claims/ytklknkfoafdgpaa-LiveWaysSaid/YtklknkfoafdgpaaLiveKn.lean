/- The chapter's example, in plain words; every code has an answer. -/
import Derived.Test.YtklknkfoafdgpaaLiveRunP
namespace Go.Proofs.Ytklknkfoafdgpaa.LiveKn
open Go.RowKit Go.Proofs.YtklknkfoafdgpaaW.PrintWords
open Go.Proofs.Ytklknkfoafdgpaa.PLiveKnown Go.Proofs.Ytklknkfoafdgpaa.LiveT Go.Proofs.Ytklknkfoafdgpaa.LiveB Go.Proofs.Ytklknkfoafdgpaa.LiveAhead Go.Proofs.Ytklknkfoafdgpaa.LiveSettled Go.Proofs.Ytklknkfoafdgpaa.LiveCopied Go.Proofs.Ytklknkfoafdgpaa.LiveAft Go.Proofs.Ytklknkfoafdgpaa.LiveRunP
set_option linter.unusedVariables false
set_option linter.unusedSimpArgs false

theorem lfp_exists (c : List Blk) : ∃ V, Lfp c V := by
  classical
  let V : Nat → RS := fun b r => decide (∀ P, Pre c P → P b r = true)
  have hle : ∀ P, Pre c P → ∀ b, Le (V b) (P b) := fun P hP b r hr => (of_decide_eq_true hr) P hP
  have hpre : Pre c V := by
    intro b B hB r hr
    apply decide_eq_true
    intro P hP
    exact hP b B hB r (back_mono B.1 (endd_mono B.2 (fun n _ => hle P hP n)) r hr)
  refine ⟨V, ⟨fun b B hB => ?_, fun P hP b _ => hle P hP b⟩⟩
  apply le_antisymm'
  · have hQ : Pre c (fun b r => match c[b]? with | some B => back B.1 (endd c.length V B.2) r | none => true) := by
      intro b' B' hB' r hr
      simp only [hB']
      refine back_mono B'.1 (endd_mono B'.2 (fun n hn r hr => ?_)) r hr
      cases hc : c[n]? with
      | none => rw [List.getElem?_eq_none_iff] at hc; omega
      | some Bn =>
        simp only [hc] at hr
        exact hpre n Bn hc r hr
    intro r hr
    have := hle _ hQ b r hr
    simp only [hB] at this
    exact this
  · exact hpre b B hB

def kIns0 : List S47 := [⟨1, 0, 2, [⟨0, 0⟩], 0, 0, 0, []⟩, ⟨2, 12, 3, [⟨0, 2⟩, ⟨3, 5⟩], 2, 0, 0, []⟩, ⟨1, 0, 2, [⟨1, 0⟩], 0, 0, 0, []⟩, ⟨6, 0, -1, [], 0, 0, 0, [⟨0, 0, [⟨0, 0⟩, ⟨0, 2⟩]⟩]⟩, ⟨7, 0, -1, [], 0, 0, 0, []⟩]
def kIns1 : List S47 := [⟨6, 0, -1, [], 0, 0, 0, [⟨0, 0, [⟨0, 0⟩, ⟨0, 1⟩]⟩]⟩, ⟨9, 0, -1, [], 0, 0, 0, [⟨0, 0, [⟨0, 0⟩, ⟨0, 1⟩]⟩]⟩]
def known : List S43 := [⟨0, kIns0, [1]⟩, ⟨9, kIns1, []⟩]
def knownWant : List S43 := [⟨0, kIns0.drop 2, [1]⟩, ⟨9, kIns1, []⟩]
def kV1 : RS := back (kIns1.map iOf) none'
theorem kV1_eq (r : Int) : kV1 r = (inR r && (r == 0 || r == 1)) := by
  have h : ∀ r : Int, kV1 r = ((((none' r && r != -1) || (inR r && asks47 ⟨9, 0, -1, [], 0, 0, 0, [⟨0, 0, [⟨0, 0⟩, ⟨0, 1⟩]⟩]⟩ r)) && r != -1) || (inR r && asks47 ⟨6, 0, -1, [], 0, 0, 0, [⟨0, 0, [⟨0, 0⟩, ⟨0, 1⟩]⟩]⟩ r)) := fun r => rfl
  rw [h]
  have ha : ∀ o : Int, asks47 ⟨o, 0, -1, [], 0, 0, 0, [⟨0, 0, [⟨0, 0⟩, ⟨0, 1⟩]⟩]⟩ r = (r == 0 || r == 1) := fun o => by
    simp [asks47, regsOf]
    rfl
  rw [ha, ha]
  simp only [none']
  by_cases h0 : r = 0
  · subst h0; rfl
  · by_cases h1 : r = 1
    · subst h1; rfl
    · simp [h0, h1]
theorem known_v1 {V : Nat → RS} (h : Lfp (codeOf known) V) : V 1 = kV1 := by
  rw [h.fix 1 (kIns1.map iOf, []) rfl]
  rfl
theorem known_e0 {V : Nat → RS} (h : Lfp (codeOf known) V) : endd known.length V [1] = kV1 := by
  rw [← known_v1 h]
  funext r
  simp [endd, known]
theorem known_e1 {V : Nat → RS} : endd known.length V [] = none' := by
  funext r
  simp [endd, none']
def two (r : Int) : Bool := r == 0 || r == 1
theorem range_two : (List.range 512).filter (fun r => r == 0 || r == 1) = [0, 1] := by decide +kernel
theorem regs_of_two {S : RS} (h : ∀ r : Nat, r < 512 → S (r : Int) = (r == 0 || r == 1)) : regsTo S 512 = [0, 1] := by
  have e : (List.range 512).filter (fun (r : Nat) => S (r : Int)) = (List.range 512).filter (fun r => r == 0 || r == 1) := List.filter_congr fun r hr => h r (List.mem_range.mp hr)
  unfold regsTo
  rw [e, range_two]
  rfl
theorem range_three : (List.range 512).filter (fun r => r == 0 || r == 1 || r == 2) = [0, 1, 2] := by decide +kernel
theorem regs_of_three {S : RS} (h : ∀ r : Nat, r < 512 → S (r : Int) = (r == 0 || r == 1 || r == 2)) : regsTo S 512 = [0, 1, 2] := by
  have e : (List.range 512).filter (fun (r : Nat) => S (r : Int)) = (List.range 512).filter (fun r => r == 0 || r == 1 || r == 2) := List.filter_congr fun r hr => h r (List.mem_range.mp hr)
  unfold regsTo
  rw [e, range_three]
  rfl
theorem in512 (r : Nat) (h : r < 512) : inR (r : Int) = true := by simp [inR]; omega
/-- Ahead of the last instruction of the first block. -/
theorem kB4 (r : Nat) (h : r < 512) : kV1 (r : Int) = (r == 0 || r == 1) := by
  rw [kV1_eq, in512 r h, Bool.true_and, Bool.eq_iff_iff]
  simp
  omega
def kB3 : RS := back ((kIns0.drop 4).map iOf) kV1
def kB2 : RS := back ((kIns0.drop 3).map iOf) kV1
def kB1 : RS := back ((kIns0.drop 2).map iOf) kV1
def kB0 : RS := back ((kIns0.drop 1).map iOf) kV1
theorem kB3_eq (r : Int) : kB3 r = (inR r && (r == 0 || r == 1)) := by
  have h : kB3 r = ((kV1 r && r != -1) || (inR r && asks47 ⟨7, 0, -1, [], 0, 0, 0, []⟩ r)) := rfl
  rw [h, kV1_eq]
  have ha : asks47 ⟨7, 0, -1, [], 0, 0, 0, []⟩ r = false := rfl
  rw [ha]
  by_cases h0 : r = -1
  · subst h0; rfl
  · simp [h0]
theorem kB2_eq (r : Int) : kB2 r = (inR r && (r == 0 || r == 1 || r == 2)) := by
  have h : kB2 r = ((kB3 r && r != -1) || (inR r && asks47 ⟨6, 0, -1, [], 0, 0, 0, [⟨0, 0, [⟨0, 0⟩, ⟨0, 2⟩]⟩]⟩ r)) := rfl
  rw [h, kB3_eq]
  have ha : asks47 ⟨6, 0, -1, [], 0, 0, 0, [⟨0, 0, [⟨0, 0⟩, ⟨0, 2⟩]⟩]⟩ r = (r == 0 || r == 2) := by
    simp [asks47, regsOf]
    rfl
  rw [ha]
  by_cases h0 : r = -1
  · subst h0; rfl
  · have hb : (r != -1) = true := bne_iff_ne.mpr h0
    rw [hb]
    cases inR r <;> cases (r == 0) <;> cases (r == 1) <;> cases (r == 2) <;> rfl
theorem kB1_eq (r : Int) : kB1 r = (inR r && (r == 0 || r == 1)) := by
  have h : kB1 r = ((kB2 r && r != 2) || (inR r && asks47 ⟨1, 0, 2, [⟨1, 0⟩], 0, 0, 0, []⟩ r)) := by
    have hi : idle (iOf ⟨1, 0, 2, [⟨1, 0⟩], 0, 0, 0, []⟩) kB2 = false := by
      have : kB2 2 = true := by rw [kB2_eq]; rfl
      simp [idle, iOf, q47, this]
    show LiveT.ahead (iOf ⟨1, 0, 2, [⟨1, 0⟩], 0, 0, 0, []⟩) kB2 r = _
    simp only [LiveT.ahead, hi]
    rfl
  rw [h, kB2_eq]
  have ha : asks47 ⟨1, 0, 2, [⟨1, 0⟩], 0, 0, 0, []⟩ r = false := rfl
  rw [ha]
  by_cases h0 : r = 2
  · subst h0; rfl
  · have hb : (r != 2) = true := bne_iff_ne.mpr h0
    have hc : (r == 2) = false := beq_eq_false_iff_ne.mpr h0
    rw [hb, hc]
    cases inR r <;> cases (r == 0) <;> cases (r == 1) <;> rfl
theorem kB0_eq : kB0 = kB1 := by
  have hi : idle (iOf ⟨2, 12, 3, [⟨0, 2⟩, ⟨3, 5⟩], 2, 0, 0, []⟩) kB1 = true := by
    have : kB1 3 = false := by rw [kB1_eq]; rfl
    simp [idle, iOf, q47, this]
  exact ahead_idle hi
theorem kS0 : idle (iOf ⟨1, 0, 2, [⟨0, 0⟩], 0, 0, 0, []⟩) kB0 = true := by
  have : kB0 2 = false := by rw [kB0_eq, kB1_eq]; rfl
  simp [idle, iOf, q47, this]
theorem kS1 : idle (iOf ⟨2, 12, 3, [⟨0, 2⟩, ⟨3, 5⟩], 2, 0, 0, []⟩) kB1 = true := by
  have : kB1 3 = false := by rw [kB1_eq]; rfl
  simp [idle, iOf, q47, this]
theorem kS2 : idle (iOf ⟨1, 0, 2, [⟨1, 0⟩], 0, 0, 0, []⟩) kB2 = false := by
  have : kB2 2 = true := by rw [kB2_eq]; rfl
  simp [idle, iOf, q47, this]
theorem known_strip0 : strip iOf kIns0 kV1 = kIns0.drop 2 := by
  have h0 : strip iOf kIns0 kV1 = strip iOf (kIns0.drop 1) kV1 := if_pos kS0
  have h1 : strip iOf (kIns0.drop 1) kV1 = strip iOf (kIns0.drop 2) kV1 := if_pos kS1
  have h2 : strip iOf (kIns0.drop 2) kV1 = ⟨1, 0, 2, [⟨1, 0⟩], 0, 0, 0, []⟩ :: strip iOf (kIns0.drop 3) kV1 := if_neg (fun h => Bool.noConfusion (kS2.symm.trans h))
  have h3 : strip iOf (kIns0.drop 3) kV1 = kIns0.drop 3 := rfl
  rw [h0, h1, h2, h3]
  rfl
theorem known_strip1 : strip iOf kIns1 none' = kIns1 := rfl
theorem known_run {V : Nat → RS} (h : Lfp (codeOf known) V) : runBs known V = knownWant := by
  have e0 : endd 2 V [1] = kV1 := known_e0 h
  have e1 : endd 2 V [] = none' := known_e1
  show [runB 2 V ⟨0, kIns0, [1]⟩, runB 2 V ⟨9, kIns1, []⟩] = _
  simp only [runB, e0, e1, known_strip0, known_strip1]
  rfl
theorem known_after {V : Nat → RS} (h : Lfp (codeOf known) V) : after known V 0 4 = [0, 1] ∧ after known V 0 2 = [0, 1, 2] ∧ after known V 0 1 = [0, 1] ∧ after known V 0 0 = [0, 1] ∧ after known V 0 5 = [] ∧ after known V 2 0 = [] := by
  have e0 : endd 2 V [1] = kV1 := known_e0 h
  have b : ∀ i : Nat, behind known V 0 i = back ((kIns0.drop (i + 1)).map iOf) kV1 := fun i => by rw [← e0]; rfl
  refine ⟨?_, ?_, ?_, ?_, rfl, rfl⟩
  · show regsTo (behind known V 0 4) 512 = _
    rw [b 4]
    exact regs_of_two fun r hr => kB4 r hr
  · show regsTo (behind known V 0 2) 512 = _
    rw [b 2]
    refine regs_of_three fun r hr => ?_
    show kB2 r = _
    rw [kB2_eq, in512 r hr, Bool.true_and, Bool.eq_iff_iff]
    simp
    omega
  · show regsTo (behind known V 0 1) 512 = _
    rw [b 1]
    refine regs_of_two fun r hr => ?_
    show kB1 r = _
    rw [kB1_eq, in512 r hr, Bool.true_and, Bool.eq_iff_iff]
    simp
    omega
  · show regsTo (behind known V 0 0) 512 = _
    rw [b 0]
    refine regs_of_two fun r hr => ?_
    show kB0 r = _
    rw [kB0_eq, kB1_eq, in512 r hr, Bool.true_and, Bool.eq_iff_iff]
    simp
    omega
theorem known_fit : FitC known := by
  refine ⟨by decide, ?_, ?_, ?_⟩
  all_goals
    intro b hb
    have hb2 : b = 0 ∨ b = 1 := by simp [known] at hb; omega
  · rcases hb2 with rfl | rfl <;> decide
  · rcases hb2 with rfl | rfl <;> decide
  · intro i hi
    have key : ∀ x ∈ kIns0 ++ kIns1, Fit47 x := by
      intro x hx
      simp [kIns0, kIns1] at hx
      rcases hx with rfl | rfl | rfl | rfl | rfl | rfl | rfl <;> exact ⟨by decide, by decide, fun k hk => by first | (simp at hk; done) | (obtain rfl : k = 0 := (by simp at hk; omega); decide)⟩
    rcases hb2 with rfl | rfl
    · have hm : rd_T47 (rd_T43 known ((0 : Nat) : Int)).f1 i ∈ kIns0 ++ kIns1 := by
        have : rd_T47 (rd_T43 known ((0 : Nat) : Int)).f1 i = kIns0[i] := by
          have h : i < kIns0.length := hi
          show rd_T47 kIns0 i = _
          simp [rd_T47, List.getD_eq_getElem?_getD, h]
          try rfl
        rw [this]
        exact List.mem_append_left _ (List.getElem_mem _)
      exact key _ hm
    · have hm : rd_T47 (rd_T43 known ((1 : Nat) : Int)).f1 i ∈ kIns0 ++ kIns1 := by
        have : rd_T47 (rd_T43 known ((1 : Nat) : Int)).f1 i = kIns1[i] := by
          have h : i < kIns1.length := hi
          show rd_T47 kIns1 i = _
          simp [rd_T47, List.getD_eq_getElem?_getD, h]
          try rfl
        rw [this]
        exact List.mem_append_right _ (List.getElem_mem _)
      exact key _ hm
end Go.Proofs.Ytklknkfoafdgpaa.LiveKn
