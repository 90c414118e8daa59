/- More of a profile's form. Plain lists and numbers. -/
import Derived.Test.YtjeaojolhdfpeaaGreatForm
namespace Go.Proofs.YtjeaojolhdfpeaaGreat.Form
open Go.RowKit Go.Proofs.YtjeaojolhdfpeaaGreatW.PrintWords Go.Proofs.YtjeaojolhdfpeaaGreatW.PrintMore
open Go.Proofs.YtjeaojolhdfpeaaGreat.PProfileMeets
set_option linter.unusedVariables false
set_option linter.unusedSimpArgs false

/-- The numbers of a spot as Go's types have them. -/
def Rg (s : S51) : Prop := (-9223372036854775808 ≤ s.f0 ∧ s.f0 ≤ 9223372036854775807) ∧ (0 ≤ s.f1 ∧ s.f1 ≤ 65535) ∧ (0 ≤ s.f2 ∧ s.f2 ≤ 65535) ∧ (-9223372036854775808 ≤ s.f3 ∧ s.f3 ≤ 9223372036854775807)
theorem Rg.inI {s : S51} (h : Rg s) : InI s := ⟨h.1.2, h.2.1.2, h.2.2.1.2, h.2.2.2⟩

theorem foldZ_range (x : Int) (hx : -9223372036854775808 ≤ x ∧ x ≤ 9223372036854775807) : 0 ≤ foldZ x ∧ foldZ x < 18446744073709551616 := by
  unfold foldZ
  split <;> omega
theorem take_snoc {α : Type} (l : List α) (i : Nat) (h : i < l.length) : l.take (i + 1) = l.take i ++ [l[i]] := List.take_succ_eq_append_getElem h
theorem rdL (l : List (List S51)) (i : Nat) (h : i < l.length) : rd_L3 l (i : Int) = l[i] := by simp [rd_L3, List.getD_eq_getElem?_getD, List.getElem?_eq_getElem h]
theorem rdT (x : List S51) (i : Nat) (h : i < x.length) : rd_T51 x (i : Int) = x[i] := by simp [rd_T51, List.getD_eq_getElem?_getD, List.getElem?_eq_getElem h]
theorem rows_length (x : List S51) (h : ∀ s ∈ x, InI s) : (x.flatMap spotForm).length ≤ 41 * x.length := by
  induction x with
  | nil => simp
  | cons a x ih =>
    have h1 := spotForm_length a (h a List.mem_cons_self)
    have h2 := ih (fun s hs => h s (List.mem_cons_of_mem _ hs))
    simp only [List.flatMap_cons, List.length_append, List.length_cons]
    omega
theorem rowForm_length (x : List S51) (hx : x.length ≤ 2000) (h : ∀ s ∈ x, InI s) : (rowForm x).length ≤ 82010 := by
  have h1 := rows_length x h
  have h2 := uv_length (n := x.length) (by omega)
  simp only [rowForm, List.length_append]
  omega
theorem profForm_length (l : List (List S51)) (hm : ∀ x ∈ l, x.length ≤ 2000) (h : ∀ x ∈ l, ∀ s ∈ x, InI s) : (l.flatMap rowForm).length ≤ 82010 * l.length := by
  induction l with
  | nil => simp
  | cons a l ih =>
    have h1 := rowForm_length a (hm a List.mem_cons_self) (h a List.mem_cons_self)
    have h2 := ih (fun s hs => hm s (List.mem_cons_of_mem _ hs)) (fun s hs => h s (List.mem_cons_of_mem _ hs))
    simp only [List.flatMap_cons, List.length_append, List.length_cons]
    omega
theorem many_false {l : List (List S51)} (h : many l = false) : l.length ≤ 128 ∧ ∀ x ∈ l, x.length ≤ 2000 := by
  unfold many at h
  rw [Bool.or_eq_false_iff, decide_eq_false_iff_not, List.any_eq_false] at h
  exact ⟨by omega, fun x hx => by have := h.2 x hx; simp at this; omega⟩
theorem enc_length (l : List (List S51)) (hr : ∀ x ∈ l, ∀ s ∈ x, Rg s) : (enc l).1.length ≤ 10500000 := by
  unfold enc
  split
  · simp
  · rename_i h
    obtain ⟨hl, hm⟩ := many_false (by simpa using h)
    split
    · have h1 := profForm_length l hm (fun x hx s hs => (hr x hx s hs).inI)
      have h2 := uv_length (n := l.length) (by omega)
      simp only [form, headForm, List.length_append, List.length_cons, List.length_nil]
      omega
    · simp
end Go.Proofs.YtjeaojolhdfpeaaGreat.Form
