/- What Run leaves fits where what it took fits; two comparisons as contracts. -/
import Derived.Test.YtklknkfoafdgpaaLiveSame
namespace Go.Proofs.Ytklknkfoafdgpaa.LiveFit
open Go.RowKit Go.Proofs.YtklknkfoafdgpaaW.PrintWords Go.Proofs.YtklknkfoafdgpaaW.PrintLast Go.Proofs.YtklknkfoafdgpaaW.PrintMore
open Go.Proofs.Ytklknkfoafdgpaa.PLiveKnown Go.Proofs.Ytklknkfoafdgpaa.LiveT Go.Proofs.Ytklknkfoafdgpaa.LiveAhead Go.Proofs.Ytklknkfoafdgpaa.LiveSettled Go.Proofs.Ytklknkfoafdgpaa.LiveCopied Go.Proofs.Ytklknkfoafdgpaa.LiveRunP Go.Proofs.Ytklknkfoafdgpaa.LiveSame
set_option linter.unusedVariables false
set_option linter.unusedSimpArgs false

theorem strip_length (l : List S47) (S : RS) : (strip iOf l S).length ≤ l.length := by
  induction l with
  | nil => exact Nat.le_refl _
  | cons x l ih =>
    simp only [strip]
    split
    · simp only [List.length_cons]; omega
    · simp only [List.length_cons]; omega
theorem strip_mem (l : List S47) (S : RS) (x : S47) (h : x ∈ strip iOf l S) : x ∈ l := by
  induction l with
  | nil => simp [strip] at h
  | cons y l ih =>
    simp only [strip] at h
    split at h
    · exact List.mem_cons_of_mem _ (ih h)
    · rcases List.mem_cons.mp h with h | h
      · rw [h]; exact List.mem_cons_self
      · exact List.mem_cons_of_mem _ (ih h)
theorem fit_mem {l : List S47} (h : ∀ i, i < l.length → Fit47 (rd_T47 l i)) (x : S47) (hx : x ∈ l) : Fit47 x := by
  obtain ⟨i, hi, rfl⟩ := List.getElem_of_mem hx
  have := h i hi
  rwa [rd47 l i hi] at this
theorem rd_run (bs : List S43) (V : Nat → RS) (b : Nat) (hb : b < bs.length) : rd_T43 (runBs bs V) b = runB bs.length V (rd_T43 bs b) := by
  rw [rd43 _ b (by rw [runBs_length]; exact hb), rd43 bs b hb]
  simp [runBs]
theorem fit_run {bs : List S43} (h : FitC bs) (V : Nat → RS) : FitC (runBs bs V) := by
  refine ⟨by rw [runBs_length]; exact h.blocks, fun b hb => ?_, fun b hb => ?_, fun b hb i hi => ?_⟩
  · rw [runBs_length] at hb
    rw [rd_run bs V b hb]
    have h1 := h.ins b hb
    have h2 : (runB bs.length V (rd_T43 bs b)).f1.length ≤ (rd_T43 bs b).f1.length := strip_length _ _
    omega
  · rw [runBs_length] at hb
    rw [rd_run bs V b hb]
    exact h.next b hb
  · rw [runBs_length] at hb
    rw [rd_run bs V b hb] at hi ⊢
    rw [rd47 _ i hi]
    exact fit_mem (h.each b hb) _ (strip_mem _ _ _ (List.getElem_mem _))
theorem ints_calls (l : List Int) (A A1 : Option Addr) (c c1 : Nat) (w : World) (h : Kd.C (Kd.int .i64) w A l.length l) (hc : l.length ≤ c) (h1 : Kd.C (Kd.int .i64) w A1 l.length l) (hc1 : l.length ≤ c1) :
    Calls Try.prog 12 #[.slice A l.length c, .slice A1 l.length c1] w fun e w' => e = .returned (.bool true) ∧ Below w.heap.size w w' := by
  obtain ⟨k, hk⟩ := (ints_self l (Kd.C_max h)).rounds
  exact (portageref0_SameInts.calls k A c l A1 c1 l true w h hc h1 hc1 hk).mono (fun e w' hh => ⟨hh.1, hh.2.below⟩)
theorem regs_calls (fn rg : Int) (bs : List S43) (hf : FitC bs) (A A1 : Option Addr) (c c1 : Nat) (w : World) (h : Kd.C k43 w A bs.length bs) (hc : bs.length ≤ c) (h1 : Kd.C k43 w A1 bs.length bs) (hc1 : bs.length ≤ c1) :
    Calls Try.prog 17 #[.agg #[.int .i64 fn, .int .i64 rg, .slice A bs.length c], .agg #[.int .i64 fn, .int .i64 rg, .slice A1 bs.length c1]] w fun e w' => e = .returned (.bool true) ∧ Below w.heap.size w w' := by
  obtain ⟨k, hk⟩ := regs_self fn rg bs hf
  exact portageref0_SameRegs.calls k fn rg A c bs fn rg A1 c1 bs true w h hc h1 hc1 hk
end Go.Proofs.Ytklknkfoafdgpaa.LiveFit
