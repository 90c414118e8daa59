/- The comparisons of the reference, in plain words: they say whether two lists are the same. -/
import Derived.Test.YtklknkfoafdgpaaLiveRunP
import Derived.Test.YtklknkfoafdgpaaPLiveKnownx0
import Derived.Test.YtklknkfoafdgpaaPLiveKnownx2
namespace Go.Proofs.Ytklknkfoafdgpaa.LiveSame
open Go.RowKit Go.Proofs.YtklknkfoafdgpaaW.PrintWords Go.Proofs.YtklknkfoafdgpaaW.PrintLast Go.Proofs.YtklknkfoafdgpaaW.PrintMore
open Go.Proofs.Ytklknkfoafdgpaa.PLiveKnown Go.Proofs.Ytklknkfoafdgpaa.LiveT Go.Proofs.Ytklknkfoafdgpaa.LiveSet Go.Proofs.Ytklknkfoafdgpaa.LiveAhead Go.Proofs.Ytklknkfoafdgpaa.LiveEnd Go.Proofs.Ytklknkfoafdgpaa.LiveSettled Go.Proofs.Ytklknkfoafdgpaa.LiveCopied Go.Proofs.Ytklknkfoafdgpaa.LiveRunP
set_option linter.unusedVariables false
set_option linter.unusedSimpArgs false

theorem wrap_nat (i n : Nat) (h : i < n) (hn : n ≤ 9223372036854775807) : wrap64 ((i : Int) + 1) = ((i + 1 : Nat) : Int) := by unfold wrap64; omega
/-- A loop that looks for the first difference. -/
theorem loop_eq {α : Type} (l m : List α) (hlen : l.length = m.length) (g : Nat → Int → Option Bool) (hstop : ∀ k, g (k + 1) (l.length : Int) = some true)
    (hstep : ∀ i (h1 : i < l.length) (h2 : i < m.length), (l[i] = m[i] → ∀ r, Ev (fun k => g k ((i + 1 : Nat) : Int)) r → Ev (fun k => g k (i : Int)) r) ∧ (l[i] ≠ m[i] → Ev (fun k => g k (i : Int)) false)) :
    ∃ t, Ev (fun k => g k ((0 : Nat) : Int)) t ∧ (t = true ↔ l = m) := by
  have key : ∀ d i, l.length - i = d → i ≤ l.length → ∃ t, Ev (fun k => g k (i : Int)) t ∧ (t = true ↔ l.drop i = m.drop i) := by
    intro d
    induction d with
    | zero =>
      intro i hd hi
      obtain rfl : i = l.length := by omega
      exact ⟨true, Ev.step (fun k => hstop k) (Ev.now true), by rw [List.drop_length, hlen, List.drop_length]; simp⟩
    | succ d ih =>
      intro i hd hi
      have h1 : i < l.length := by omega
      have h2 : i < m.length := by omega
      rw [List.drop_eq_getElem_cons h1, List.drop_eq_getElem_cons h2]
      by_cases he : l[i] = m[i]
      · obtain ⟨t, ht, hiff⟩ := ih (i + 1) (by omega) (by omega)
        exact ⟨t, (hstep i h1 h2).1 he t ht, by rw [hiff]; exact ⟨fun h => by rw [he, h], fun h => (List.cons.inj h).2⟩⟩
      · exact ⟨false, (hstep i h1 h2).2 he, ⟨fun h => absurd h (by decide), fun h => absurd (List.cons.inj h).1 he⟩⟩
  obtain ⟨t, ht, hiff⟩ := key _ 0 rfl (Nat.zero_le _)
  exact ⟨t, ht, by simpa using hiff⟩
theorem rd82 (l : List S82) (i : Nat) (h : i < l.length) : rd_T82 l (i : Int) = l[i] := by simp [rd_T82, List.getD_eq_getElem?_getD, h]
theorem rd78 (l : List S78) (i : Nat) (h : i < l.length) : rd_T78 l (i : Int) = l[i] := by simp [rd_T78, List.getD_eq_getElem?_getD, h]
theorem rd47 (l : List S47) (i : Nat) (h : i < l.length) : rd_T47 l (i : Int) = l[i] := by simp [rd_T47, List.getD_eq_getElem?_getD, h]
theorem rd43 (l : List S43) (i : Nat) (h : i < l.length) : rd_T43 l (i : Int) = l[i] := by simp [rd_T43, List.getD_eq_getElem?_getD, h]
theorem rdI (l : List Int) (i : Nat) (h : i < l.length) : rd l (i : Int) = l[i] := by simp [rd, List.getD_eq_getElem?_getD, h]
/-- Two lists of unlike length are unlike. -/
theorem other_len {α : Type} {l m : List α} (h : ¬ (l.length : Int) = (m.length : Int)) : l ≠ m := fun he => h (by rw [he])

theorem ints_ev (l m : List Int) (hl : l.length ≤ 9223372036854775807) : ∃ t, Ev (fun k => portageref0_SameInts.f k l m) t ∧ (t = true ↔ l = m) := by
  by_cases hlen : (l.length : Int) = (m.length : Int)
  · obtain ⟨t, ht, hiff⟩ := loop_eq l m (by omega) (fun k i => portageref0_SameInts.l0 k l m i) (fun k => by simp only [portageref0_SameInts.l0]; rw [if_neg (by omega)]) (fun i h1 h2 => by
      have hs : ∀ k, portageref0_SameInts.l0 (k + 1) l m (i : Int) = if l[i] = m[i] then portageref0_SameInts.l0 k l m ((i + 1 : Nat) : Int) else some false := fun k => by
        simp only [portageref0_SameInts.l0]
        rw [if_pos (by omega), if_pos (by omega), if_pos (by omega), rdI l i h1, rdI m i h2, wrap_nat i _ h1 hl]
      exact ⟨fun he r hr => Ev.step (fun k => by rw [hs, if_pos he]) hr, fun he => Ev.step (fun k => by rw [hs, if_neg he]) (Ev.now false)⟩)
    exact ⟨t, Ev.congr (fun k => by unfold portageref0_SameInts.f; rw [if_pos hlen]; rfl) ht, hiff⟩
  · exact ⟨false, Ev.congr (fun k => by unfold portageref0_SameInts.f; rw [if_neg hlen]) (Ev.now false), by simp [other_len hlen]⟩
theorem ints_self (l : List Int) (hl : l.length ≤ 9223372036854775807) : Ev (fun k => portageref0_SameInts.f k l l) true := by
  obtain ⟨t, ht, hiff⟩ := ints_ev l l hl
  rw [hiff.mpr rfl] at ht
  exact ht
end Go.Proofs.Ytklknkfoafdgpaa.LiveSame
