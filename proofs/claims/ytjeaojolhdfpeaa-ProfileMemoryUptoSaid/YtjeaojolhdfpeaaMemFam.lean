/- Rows that lie apart, as a family: what law 18's apart asks for. -/
import Derived.Test.YtjeaojolhdfpeaaAptS
namespace Go.Proofs.Ytjeaojolhdfpeaa.MemFam
open Go.RowKit Go.Maps Go.Proofs.YtjeaojolhdfpeaaW.PrintWords Go.Proofs.YtjeaojolhdfpeaaW.PrintLast Go.Proofs.YtjeaojolhdfpeaaW.PrintMore
open Go.Proofs.Ytjeaojolhdfpeaa.PProfileMemory Go.Proofs.Ytjeaojolhdfpeaa.BookB Go.Proofs.Ytjeaojolhdfpeaa.BookP Go.Proofs.Ytjeaojolhdfpeaa.Fam
set_option linter.unusedVariables false
set_option linter.unusedSimpArgs false

/-- n rows, each of its own block. -/
structure Rows (base : Nat) (W : World) (n : Nat) (vs : Nat → HS) (xs : Nat → List S28) (ok : Nat → Prop) : Prop where
  rows : ∀ j, j < n → Kd.R k28 28 W base (Tight (hv (vs j))) (hv (vs j)) (xs j)
  apart : ∀ i, i < n → ∀ j, j < n → i ≠ j → ∀ b, (hv (vs i)).ownBlock = some b → (hv (vs j)).ownBlock ≠ some b
  okk : ∀ j, j < n → ∀ b, (hv (vs j)).ownBlock = some b → ok b
theorem S_rows {W : World} {base : Nat} {ok : Nat → Prop} {A : Option Addr} {m c : Nat} {F : List (List S28)} (h : Kd.S kr 77 W base ok (.slice A m c) F) :
    ∃ vs : Nat → HS, Rows base W m vs (rw_ F) ok ∧ ∀ j, j < m → ∃ ad, A = some ad ∧ W.cell? (ad.add j) = some (hv (vs j)) := by
  obtain ⟨hm, _, _⟩ := Kd.S_reads' h
  obtain ⟨f, hR⟩ := h
  have hz : F.zipIdx.length = F.length := List.length_zipIdx
  have key : ∀ j, ∃ x : HS, j < m → (∃ ad, A = some ad ∧ W.cell? (ad.add j) = some (hv x)) ∧ Kd.R k28 28 W base (Tight (hv x)) (hv x) (rw_ F j) ∧ ∀ b, (hv x).ownBlock = some b → ok b ∧ f b = j := by
    intro j
    by_cases hj : j < m
    · obtain ⟨g, cap, he, _⟩ := Kd.R_form hR (by omega)
      injection he with h1 h2 h3
      subst h1
      obtain ⟨cs, hcl, hM, hcc⟩ := Kd.R_getA hR (([], 0) : List S28 × Nat) (j : Int) (by omega) (by omega)
      rw [Int.toNat_natCast] at hM hcc
      have hjF : j < F.length := by omega
      have hg : F.zipIdx.getD j ([], 0) = (rw_ F j, j) := by simp [List.getD_eq_getElem?_getD, rw_, List.getElem?_zipIdx, List.getElem?_eq_getElem hjF]
      rw [hg] at hM
      obtain ⟨vr, rfl, hr⟩ := hM
      obtain ⟨Ar, cr, rfl⟩ := Kd.R_slice hr
      refine ⟨(Ar, (rw_ F j).length, cr), fun _ => ⟨⟨_, rfl, ?_⟩, Kd.R_reok rfl hr (fun b hb => hb.symm), fun b hb => ⟨(hr.1 b hb).1.1, (hr.1 b hb).2⟩⟩⟩
      have h0 := hcc 0 _ rfl
      have e : j * (Kd.tag f kr).sz + 0 = j := by show j * 1 + 0 = j; omega
      rw [e] at h0
      exact h0
    · exact ⟨(none, 0, 0), fun h => absurd h hj⟩
  obtain ⟨vs, hvs⟩ := Classical.axiomOfChoice key
  refine ⟨vs, ⟨fun j hj => (hvs j hj).2.1, fun i hi j hj hij b hb hb2 => ?_, fun j hj b hb => ((hvs j hj).2.2 b hb).1⟩, fun j hj => (hvs j hj).1⟩
  have h1 := ((hvs i hi).2.2 b hb).2
  have h2 := ((hvs j hj).2.2 b hb2).2
  omega
section
variable {base : Nat} {W W1 : World} {n m : Nat} {vs us : Nat → HS} {xs ys : Nat → List S28} {ok ok' : Nat → Prop}
theorem Rows.nil : Rows base W 0 vs xs ok := ⟨fun _ h => absurd h (Nat.not_lt_zero _), fun _ h => absurd h (Nat.not_lt_zero _), fun _ h => absurd h (Nat.not_lt_zero _)⟩
theorem Rows.mono (h : Rows base W n vs xs ok) (hk : ∀ k, ok k → ok' k) : Rows base W n vs xs ok' := ⟨h.rows, h.apart, fun j hj b hb => hk b (h.okk j hj b hb)⟩
theorem Rows.below (h : Rows base W n vs xs ok) (hb : Below W.heap.size W W1) : Rows base W1 n vs xs ok := ⟨fun j hj => Kd.R_below (h.rows j hj) hb, h.apart, h.okk⟩
theorem Rows.lt (h : Rows base W n vs xs ok) {j b : Nat} (hj : j < n) (hb : (hv (vs j)).ownBlock = some b) : b < W.heap.size := Kd.R_lt (h.rows j hj) b hb
theorem Rows.bound (h : Rows base W n vs xs ok) : Rows base W n vs xs (fun k => ok k ∧ base ≤ k ∧ k < W.heap.size) := ⟨h.rows, h.apart, fun j hj b hb => ⟨h.okk j hj b hb, Kd.R_base (h.rows j hj) b hb, h.lt hj hb⟩⟩
/-- One block turned that is none of theirs. -/
theorem Rows.grown (h : Rows base W n vs xs ok) {r : Option Nat} (hg : W.grownBy W1 r) (hr : ∀ k, ok k → some k ≠ r) : Rows base W1 n vs xs ok :=
  ⟨fun j hj => Kd.R_grown (h.rows j hj) hg (fun k hk e => hr k (h.okk j hj k hk.symm) e), h.apart, h.okk⟩
/-- A row of another type turned. -/
theorem Rows.over (h : Rows base W n vs xs ok) {v : Value} (hty : ∀ k, v.ownBlock = some k → ∃ cells, W.heap[k]? = some (.cells cells 77 (0, 0))) (hg : W.grownBy W1 v.ownBlock) : Rows base W1 n vs xs ok :=
  ⟨fun j hj => Kd.R_grown (h.rows j hj) hg (fun k hk e => by
    obtain ⟨cells, h1⟩ := Kd.R_typed (h.rows j hj) k hk.symm
    obtain ⟨cells2, h2⟩ := hty k e.symm
    exact blk_ne h1 h2 (by decide) rfl), h.apart, h.okk⟩
/-- Two families whose blocks are none of one another's. -/
theorem Rows.append (h : Rows base W n vs xs ok) (h2 : Rows base W m us ys ok') (hd : ∀ k, ok k → ¬ ok' k) :
    Rows base W (n + m) (fun j => if j < n then vs j else us (j - n)) (fun j => if j < n then xs j else ys (j - n)) (fun k => ok k ∨ ok' k) := by
  refine ⟨fun j hj => ?_, fun i hi j hj hij b hb => ?_, fun j hj b hb => ?_⟩
  · by_cases hn : j < n
    · simp only [if_pos hn]
      exact h.rows j hn
    · simp only [if_neg hn]
      exact h2.rows (j - n) (by omega)
  · by_cases h1 : i < n
    · simp only [if_pos h1] at hb
      by_cases h3 : j < n
      · simp only [if_pos h3]
        exact h.apart i h1 j h3 hij b hb
      · simp only [if_neg h3]
        exact fun e => hd b (h.okk i h1 b hb) (h2.okk (j - n) (by omega) b e)
    · simp only [if_neg h1] at hb
      by_cases h3 : j < n
      · simp only [if_pos h3]
        exact fun e => hd b (h.okk j h3 b e) (h2.okk (i - n) (by omega) b hb)
      · simp only [if_neg h3]
        exact h2.apart (i - n) (by omega) (j - n) (by omega) (by omega) b hb
  · by_cases h1 : j < n
    · simp only [if_pos h1] at hb
      exact .inl (h.okk j h1 b hb)
    · simp only [if_neg h1] at hb
      exact .inr (h2.okk (j - n) (by omega) b hb)
theorem reads_rows {A : Option Addr} (hm : m ≤ 9223372036854775807) (h : ∀ j, j < m → ∃ ad, A = some ad ∧ W.cell? (ad.add j) = some (hv (vs j))) : ReadsRow (fun (x : HS) cs => cs = [hv x]) 1 W A m ((List.range m).map vs) := by
  refine ⟨by simp, hm, fun h0 => ?_⟩
  obtain ⟨ad, e, _⟩ := h 0 h0
  refine ⟨ad, e, fun j p hj => ?_⟩
  have hjm : j < m := by
    have := (List.getElem?_eq_some_iff.1 hj).1
    simpa using this
  have hp : p = vs j := by
    have := hj
    rw [List.getElem?_map, List.getElem?_range hjm] at this
    simpa using this.symm
  subst hp
  refine ⟨[hv (vs j)], rfl, rfl, fun i u hu => ?_⟩
  have hi : i = 0 := by
    have := (List.getElem?_eq_some_iff.1 hu).1
    simpa using this
  subst hi
  obtain ⟨ad2, e2, hc⟩ := h j hjm
  have e3 : ad2 = ad := by
    rw [e] at e2
    injection e2 with e2
    exact e2.symm
  subst e3
  have hu2 : hv (vs j) = u := by simpa using hu
  subst hu2
  have e4 : j * 1 + 0 = j := by omega
  rw [e4]
  exact hc
theorem range_append (vs us : Nat → HS) (n m : Nat) : (List.range n).map vs ++ (List.range m).map us = (List.range (n + m)).map (fun j => if j < n then vs j else us (j - n)) := by
  refine List.ext_getElem (by simp) (fun j h1 h2 => ?_)
  simp only [List.length_append, List.length_map, List.length_range] at h1
  by_cases h : j < n
  · rw [List.getElem_append_left (by simpa using h)]
    simp [h]
  · rw [List.getElem_append_right (by simpa using h)]
    simp [h]
end
end Go.Proofs.Ytjeaojolhdfpeaa.MemFam
