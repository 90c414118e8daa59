/- The form of a profile as a list of bytes, and that the printed functions of the writer and of the reference lay down just these. Plain lists and numbers. -/
/- More of a profile's form. Plain lists and numbers. -/
import Derived.Test.YtjeaojolhdfpeaaGreatPProfileCutx2
import Derived.Test.YtjeaojolhdfpeaaGreatCutT
import Derived.Test.YtjeaojolhdfpeaaGreatPProfileCutx4
import Derived.Test.YtjeaojolhdfpeaaGreatPProfileCutx5
import Derived.Test.YtjeaojolhdfpeaaGreatCutK
namespace Go.Proofs.YtjeaojolhdfpeaaGreat.Form
open Go.RowKit Go.Proofs.YtjeaojolhdfpeaaGreatW.PrintWords Go.Proofs.YtjeaojolhdfpeaaGreatW.PrintMore
open Go.Proofs.YtjeaojolhdfpeaaGreat.PProfileCut
set_option linter.unusedVariables false
set_option linter.unusedSimpArgs false

/-- A number's digits to the base 128, the lowest first. -/
def uv (n : Nat) : List Int := if h : n < 128 then [(n : Int)] else ((n % 128 + 128 : Nat) : Int) :: uv (n / 128)
  termination_by n
  decreasing_by omega
theorem uv_small {n : Nat} (h : n < 128) : uv n = [(n : Int)] := by rw [uv]; simp [h]
theorem uv_big {n : Nat} (h : 128 ≤ n) : uv n = ((n % 128 + 128 : Nat) : Int) :: uv (n / 128) := by
  rw [uv]
  simp [show ¬ n < 128 by omega]
theorem uv_length_le (d : Nat) : ∀ n : Nat, n < 128 ^ (d + 1) → (uv n).length ≤ d + 1 := by
  induction d with
  | zero => intro n h; rw [uv_small (by simpa using h)]; simp
  | succ d ih =>
    intro n h
    by_cases h1 : n < 128
    · rw [uv_small h1]; simp
    · rw [uv_big (by omega)]
      have := ih (n / 128) (by rw [Nat.div_lt_iff_lt_mul (by omega)]; rw [Nat.pow_succ] at h; exact h)
      simp only [List.length_cons]
      omega
theorem uv_length {n : Nat} (h : n < 18446744073709551616) : (uv n).length ≤ 10 := uv_length_le 9 n (Nat.lt_of_lt_of_le h (by decide))

theorem or_128' (n : Nat) : Go.bits .or .u8 ((n : Int) % 256) 128 = ((n % 128 + 128 : Nat) : Int) := by
  have e : (n : Int) % 256 = ((n % 256 : Nat) : Int) := by omega
  have e2 : (128 : Int) = ((128 : Nat) : Int) := rfl
  rw [e, e2, u8_or_nat _ 128 (by omega) (by omega)]
  congr 1
  have h3 : ∀ m : Fin 256, m.val ||| 128 = m.val % 128 + 128 := by decide +kernel
  have := h3 ⟨n % 256, by omega⟩
  simp only at this
  rw [this]
  omega

theorem digits_go (d : Nat) : ∀ (n : Nat) (bs : List Int), n < 128 ^ (d + 1) → bs.length + d + 1 ≤ 140737488355328 → Ev (fun k => wire_digits_uint64.l0 k bs (n : Int)) (bs ++ uv n) := by
  induction d with
  | zero =>
    intro n bs hn hl
    have hn' : n < 128 := by simpa using hn
    refine Ev.step (f := fun _ => some (bs ++ uv n)) (fun k => ?_) (Ev.now _)
    simp only [wire_digits_uint64.l0]
    rw [if_neg (by omega), if_pos (by omega), uv_small hn', show (n : Int) % 256 = n by omega]
  | succ d ih =>
    intro n bs hn hl
    by_cases h : n < 128
    · refine Ev.step (f := fun _ => some (bs ++ uv n)) (fun k => ?_) (Ev.now _)
      simp only [wire_digits_uint64.l0]
      rw [if_neg (by omega), if_pos (by omega), uv_small h, show (n : Int) % 256 = n by omega]
    · have h2 : n / 128 < 128 ^ (d + 1) := by rw [Nat.div_lt_iff_lt_mul (by omega)]; rw [Nat.pow_succ] at hn; exact hn
      have h3 := ih (n / 128) (bs ++ [((n % 128 + 128 : Nat) : Int)]) h2 (by rw [List.length_append, List.length_singleton]; omega)
      rw [List.append_assoc, List.singleton_append, ← uv_big (by omega)] at h3
      refine Ev.step (fun k => ?_) h3
      simp only [wire_digits_uint64.l0]
      rw [if_pos (by omega), if_pos (by omega), or_128', show (n : Int) / 128 = ((n / 128 : Nat) : Int) by omega]
theorem digits_some (n : Nat) (bs : List Int) (hn : n < 18446744073709551616) (hl : bs.length ≤ 140737488355000) : ∃ k, wire_digits_uint64.f k bs (n : Int) = some (bs ++ uv n) :=
  (digits_go 9 n bs (Nat.lt_of_lt_of_le hn (by decide)) (by omega)).rounds

/-- A spot's numbers in their ranges. -/
def InI (s : S51) : Prop := s.f0 ≤ 9223372036854775807 ∧ s.f1 ≤ 65535 ∧ s.f2 ≤ 65535 ∧ (-9223372036854775808 ≤ s.f3 ∧ s.f3 ≤ 9223372036854775807)
theorem bytes_one (x : Int) (hx : 0 ≤ x ∧ x ≤ 255) (bs : List Int) (hl : bs.length ≤ 140737488355000) : ∃ k, wire_bytesOf_byte.f k bs x 1 = some (bs ++ [x]) := by
  refine ⟨2, ?_⟩
  have h0 : wrap64 (1 - 1) = 0 := by unfold wrap64; omega
  have h1 : wrap64 (8 * 0) = 0 := by unfold wrap64; omega
  have h2 : wrap64 (0 - 1) = -1 := by unfold wrap64; omega
  have h3 : shr .u8 x 0 = x := by simp [shr]
  simp only [wire_bytesOf_byte.f, wire_bytesOf_byte.l0, h0, h1, h2, h3]
  rw [if_pos (by omega), if_pos (by omega), if_pos (by omega), if_neg (by omega)]

/-- A signed number folded. -/
def foldZ (x : Int) : Int := if x ≥ 0 then 2 * x else -2 * x - 1
def flagsOf (s : S51) : Int := (if s.f0 = 0 then 0 else 1) + (if s.f1 = 0 then 0 else 2) + (if s.f2 = 0 then 0 else 4) + (if s.f3 = 0 then 0 else 8)
def partB (x : Int) : List Int := if x = 0 then [] else uv x.toNat
/-- The form of a spot, of a function's spots, of a profile. -/
def spotForm (s : S51) : List Int := [flagsOf s] ++ partB s.f0 ++ partB s.f1 ++ partB s.f2 ++ (if s.f3 = 0 then [] else uv (foldZ s.f3).toNat)
def rowForm (x : List S51) : List Int := uv x.length ++ x.flatMap spotForm
def headForm : List Int := [80, 84, 70, 1]
def form (l : List (List S51)) : List Int := headForm ++ uv l.length ++ l.flatMap rowForm
def okSpot (s : S51) : Bool := decide (0 ≤ s.f0) && (decide (s.f1 ≤ 1023) && (decide (s.f2 ≤ 1023) && (decide (-1 ≤ s.f3) && decide (s.f3 ≤ 128))))
def okProf (l : List (List S51)) : Bool := l.all fun x => x.all okSpot
def many (l : List (List S51)) : Bool := decide (128 < l.length) || l.any fun x => decide (2000 < x.length)
/-- What Encode answers: the bytes and the error's number. -/
def enc (l : List (List S51)) : List Int × Int := if many l then ([], 5) else if okProf l then (form l, 0) else ([], 1)

theorem partB_length (x : Int) (h : x < 18446744073709551616) : (partB x).length ≤ 10 := by
  unfold partB
  split
  · simp
  · exact uv_length (by omega)
theorem spotForm_length (s : S51) (h0 : InI s) : (spotForm s).length ≤ 41 := by
  obtain ⟨a, b, c, d⟩ := h0
  have h1 := partB_length s.f0 (by omega)
  have h2 := partB_length s.f1 (by omega)
  have h3 := partB_length s.f2 (by omega)
  have h4 : (if s.f3 = 0 then ([] : List Int) else uv (foldZ s.f3).toNat).length ≤ 10 := by
    split
    · simp
    · exact uv_length (by unfold foldZ; split <;> omega)
  simp only [spotForm, List.length_append, List.length_singleton]
  omega
end Go.Proofs.YtjeaojolhdfpeaaGreat.Form

namespace Go.Proofs.YtjeaojolhdfpeaaGreat.Form
open Go.RowKit Go.Proofs.YtjeaojolhdfpeaaGreatW.PrintWords Go.Proofs.YtjeaojolhdfpeaaGreatW.PrintMore
open Go.Proofs.YtjeaojolhdfpeaaGreat.PProfileCut
set_option linter.unusedVariables false
set_option linter.unusedSimpArgs false

/-- The numbers of a spot as Go's types have them. -/
def Rg (s : S51) : Prop := (-9223372036854775808 ≤ s.f0 ∧ s.f0 ≤ 9223372036854775807) ∧ (0 ≤ s.f1 ∧ s.f1 ≤ 65535) ∧ (0 ≤ s.f2 ∧ s.f2 ≤ 65535) ∧ (-9223372036854775808 ≤ s.f3 ∧ s.f3 ≤ 9223372036854775807)
theorem Rg.inI {s : S51} (h : Rg s) : InI s := ⟨h.1.2, h.2.1.2, h.2.2.1.2, h.2.2.2⟩

theorem foldZ_range (x : Int) (hx : -9223372036854775808 ≤ x ∧ x ≤ 9223372036854775807) : 0 ≤ foldZ x ∧ foldZ x < 18446744073709551616 := by
  unfold foldZ
  split <;> omega
theorem take_snoc {α : Type} (l : List α) (i : Nat) (h : i < l.length) : l.take (i + 1) = l.take i ++ [l[i]] := List.take_succ_eq_append_getElem h
theorem rdL (l : List (List S51)) (i : Nat) (h : i < l.length) : rd_L3 l (i : Int) = l[i] := by simp [rd_L3, List.getD_eq_getElem?_getD, List.getElem?_eq_getElem h]
theorem rdT (x : List S51) (i : Nat) (h : i < x.length) : rd_T51 x (i : Int) = x[i] := by simp [rd_T51, List.getD_eq_getElem?_getD, List.getElem?_eq_getElem h]
theorem rows_length (x : List S51) (h : ∀ s ∈ x, InI s) : (x.flatMap spotForm).length ≤ 41 * x.length := by
  induction x with
  | nil => simp
  | cons a x ih =>
    have h1 := spotForm_length a (h a List.mem_cons_self)
    have h2 := ih (fun s hs => h s (List.mem_cons_of_mem _ hs))
    simp only [List.flatMap_cons, List.length_append, List.length_cons]
    omega
theorem rowForm_length (x : List S51) (hx : x.length ≤ 2000) (h : ∀ s ∈ x, InI s) : (rowForm x).length ≤ 82010 := by
  have h1 := rows_length x h
  have h2 := uv_length (n := x.length) (by omega)
  simp only [rowForm, List.length_append]
  omega
theorem profForm_length (l : List (List S51)) (hm : ∀ x ∈ l, x.length ≤ 2000) (h : ∀ x ∈ l, ∀ s ∈ x, InI s) : (l.flatMap rowForm).length ≤ 82010 * l.length := by
  induction l with
  | nil => simp
  | cons a l ih =>
    have h1 := rowForm_length a (hm a List.mem_cons_self) (h a List.mem_cons_self)
    have h2 := ih (fun s hs => hm s (List.mem_cons_of_mem _ hs)) (fun s hs => h s (List.mem_cons_of_mem _ hs))
    simp only [List.flatMap_cons, List.length_append, List.length_cons]
    omega
theorem many_false {l : List (List S51)} (h : many l = false) : l.length ≤ 128 ∧ ∀ x ∈ l, x.length ≤ 2000 := by
  unfold many at h
  rw [Bool.or_eq_false_iff, decide_eq_false_iff_not, List.any_eq_false] at h
  exact ⟨by omega, fun x hx => by have := h.2 x hx; simp at this; omega⟩
theorem enc_length (l : List (List S51)) (hr : ∀ x ∈ l, ∀ s ∈ x, Rg s) : (enc l).1.length ≤ 10500000 := by
  unfold enc
  split
  · simp
  · rename_i h
    obtain ⟨hl, hm⟩ := many_false (by simpa using h)
    split
    · have h1 := profForm_length l hm (fun x hx s hs => (hr x hx s hs).inI)
      have h2 := uv_length (n := l.length) (by omega)
      simp only [form, headForm, List.length_append, List.length_cons, List.length_nil]
      omega
    · simp
end Go.Proofs.YtjeaojolhdfpeaaGreat.Form
