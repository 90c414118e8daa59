/- ProfileMemory: numbers in their ranges; what is encoded without an error is read back. No program is walked. -/
import Derived.Test.YtjeaojolhdfpeaaMergeP
import Derived.Test.YtjeaojolhdfpeaaBackPure
import Derived.OpenShut
namespace Go.Proofs.Ytjeaojolhdfpeaa.MemPure
open Go.RowKit Go.Maps Go.Proofs.YtjeaojolhdfpeaaW.PrintWords Go.Proofs.YtjeaojolhdfpeaaW.PrintLast Go.Proofs.YtjeaojolhdfpeaaW.PrintMore
open Go.Proofs.Ytjeaojolhdfpeaa.PProfileMemory Go.Proofs.Ytjeaojolhdfpeaa.BookB Go.Proofs.Ytjeaojolhdfpeaa.MergeP Go.Proofs.Ytjeaojolhdfpeaa.BackPure
open Go.Proofs.Ytjeaojolhdfpeaa.Form (Rg enc many okProf form rowForm headForm uv uv_small uv_big)
open Go.Proofs.Ytjeaojolhdfpeaa.Reader (Bytes)
set_option linter.unusedVariables false
set_option linter.unusedSimpArgs false

theorem or_u16 (x y : Int) : 0 ≤ Go.bits .or .u16 x y ∧ Go.bits .or .u16 x y ≤ 65535 := by
  have h := wf_bits .or .u16 x y
  have h2 : 0 ≤ Go.bits .or .u16 x y ∧ Go.bits .or .u16 x y ≤ 65535 := by simpa [Lit.wf, IntKind.min, IntKind.max, IntKind.signed, IntKind.bits] using h
  exact h2
theorem spM_Rg {x y : S28} (hx : Rg x) (hy : Rg y) : Rg (spM x y) := by
  obtain ⟨⟨h1, h2⟩, _, _, h3, h4⟩ := hx
  obtain ⟨⟨h5, h6⟩, _, _, h7, h8⟩ := hy
  refine ⟨?_, or_u16 _ _, or_u16 _ _, ?_⟩
  · show -9223372036854775808 ≤ adS x.f0 y.f0 ∧ adS x.f0 y.f0 ≤ 9223372036854775807
    unfold adS
    split
    · omega
    · split <;> omega
  · show -9223372036854775808 ≤ clM x.f3 y.f3 ∧ clM x.f3 y.f3 ≤ 9223372036854775807
    unfold clM
    split
    · omega
    · split <;> omega
theorem gt_Rg {l : List (List S28)} (h : ∀ x ∈ l, ∀ s ∈ x, Rg s) (i j : Nat) : Rg (gt l i j) := by
  have hz : Rg z28 := by unfold Rg; decide
  unfold gt rw_
  simp only [List.getD_eq_getElem?_getD]
  by_cases h1 : i < l.length
  · rw [List.getElem?_eq_getElem h1, Option.getD_some]
    by_cases h2 : j < l[i].length
    · rw [List.getElem?_eq_getElem h2, Option.getD_some]
      exact h _ (List.getElem_mem h1) _ (List.getElem_mem h2)
    · rw [List.getElem?_eq_none (by omega)]
      exact hz
  · rw [show l[i]? = none from List.getElem?_eq_none (by omega)]
    exact hz
theorem merge_Rg {a b : List (List S28)} (ha : ∀ x ∈ a, ∀ s ∈ x, Rg s) (hb : ∀ x ∈ b, ∀ s ∈ x, Rg s) : ∀ x ∈ mergeF a b, ∀ s ∈ x, Rg s := by
  intro x hx s hs
  unfold mergeF mpart at hx
  obtain ⟨i, _, rfl⟩ := List.mem_map.1 hx
  unfold mrow frow at hs
  obtain ⟨j, _, rfl⟩ := List.mem_map.1 hs
  split
  · exact spM_Rg (gt_Rg ha i j) (gt_Rg hb i j)
  · unfold Rg
    decide
theorem enc_zero {l : List (List S28)} (hg : ∀ x ∈ l, ∀ s ∈ x, Rg s) (h : (enc l).2 = 0) : GoodP l ∧ (enc l).1 = form l := by
  unfold enc at h ⊢
  cases hm : many l
  · cases ho : okProf l
    · rw [hm, ho] at h
      simp at h
    · unfold many at hm
      rw [Bool.or_eq_false_iff, decide_eq_false_iff_not, List.any_eq_false] at hm
      unfold okProf at ho
      rw [List.all_eq_true] at ho
      refine ⟨⟨by omega, fun x hx => ?_, fun x hx s hs => ⟨?_, hg x hx s hs⟩⟩, by simp⟩
      · have := hm.2 x hx
        simpa using this
      · have := ho x hx
        rw [List.all_eq_true] at this
        exact this s hs
  · rw [hm] at h
    simp at h
theorem enc_none {l : List (List S28)} (h : (enc l).2 ≠ 0) : (enc l).1 = [] := by
  unfold enc at h ⊢
  cases hm : many l
  · cases ho : okProf l
    · simp
    · rw [hm, ho] at h
      simp at h
  · simp
theorem uv_bytes (d : Nat) : ∀ n : Nat, n ≤ d → Bytes (uv n) := by
  induction d with
  | zero =>
    intro n h c hc
    rw [uv_small (by omega)] at hc
    simp at hc
    omega
  | succ d ih =>
    intro n h c hc
    by_cases hs : n < 128
    · rw [uv_small hs] at hc
      simp at hc
      omega
    · rw [uv_big (by omega), List.mem_cons] at hc
      rcases hc with hc | hc
      · omega
      · exact ih (n / 128) (by omega) c hc
theorem part_bytes (n : Nat) : Bytes (BackPure.part n) := by
  unfold BackPure.part
  split
  · intro c hc; cases hc
  · exact uv_bytes n n (Nat.le_refl _)
theorem form_bytes {l : List (List S28)} (h : GoodP l) : Bytes (form l) := by
  intro c hc
  unfold form at hc
  rw [List.mem_append, List.mem_append] at hc
  rcases hc with (hc | hc) | hc
  · simp [headForm] at hc
    omega
  · exact uv_bytes _ _ (Nat.le_refl _) c hc
  · obtain ⟨x, hx, hc⟩ := List.mem_flatMap.1 hc
    unfold rowForm at hc
    rw [List.mem_append] at hc
    rcases hc with hc | hc
    · exact uv_bytes _ _ (Nat.le_refl _) c hc
    · obtain ⟨s, hs, hc⟩ := List.mem_flatMap.1 hc
      have hg := h.2.2 x hx s hs
      rw [form_parts hg, List.mem_cons] at hc
      rcases hc with hc | hc
      · have := flags_le s
        omega
      · simp only [List.mem_append] at hc
        rcases hc with hc | hc | hc | hc
        all_goals exact part_bytes _ c hc

theorem enc_bytes {l : List (List S28)} (hg : ∀ x ∈ l, ∀ s ∈ x, Rg s) : Bytes (enc l).1 := by
  by_cases h : (enc l).2 = 0
  · obtain ⟨h1, h2⟩ := enc_zero hg h
    rw [h2]
    exact form_bytes h1
  · rw [enc_none h]
    intro c hc
    cases hc
end Go.Proofs.Ytjeaojolhdfpeaa.MemPure
