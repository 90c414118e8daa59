/- The plain law of liveness: what is wanted ahead of each block is the least answer of its rules; taking out what is idle keeps it. -/
import Derived.Test.YtklknkfoafdgpaaProg
namespace Go.Proofs.Ytklknkfoafdgpaa.LiveT
set_option linter.unusedVariables false
set_option linter.unusedSimpArgs false

/-- A set of registers. -/
abbrev RS := Int → Bool
/-- An instruction, as far as the law looks: is it quiet, what it writes, what it asks for. -/
structure I where
  q : Bool
  d : Int
  a : Int → Bool
def inR (r : Int) : Bool := decide (0 ≤ r) && decide (r < 512)
def idle (x : I) (S : RS) : Bool := x.q && !S x.d
def ahead (x : I) (S : RS) : RS := if idle x S = true then S else fun r => (S r && r != x.d) || (inR r && x.a r)
def Le (S T : RS) : Prop := ∀ r, S r = true → T r = true
theorem Le.rfl' {S : RS} : Le S S := fun _ h => h
theorem Le.trans' {S T U : RS} (h : Le S T) (h2 : Le T U) : Le S U := fun r hr => h2 r (h r hr)
theorem le_antisymm' {S T : RS} (h : Le S T) (h2 : Le T S) : S = T := by
  funext r
  cases hs : S r with
  | true => exact (h r hs).symm
  | false =>
    cases ht : T r with
    | true => rw [h2 r ht] at hs; exact absurd hs (by decide)
    | false => rfl
theorem idle_mono {x : I} {S T : RS} (h : Le S T) (hi : idle x T = true) : idle x S = true := by
  simp only [idle, Bool.and_eq_true, Bool.not_eq_true'] at hi ⊢
  refine ⟨hi.1, ?_⟩
  cases hs : S x.d with
  | false => rfl
  | true => rw [h _ hs] at hi; exact absurd hi.2 (by decide)
theorem ahead_mono (x : I) {S T : RS} (h : Le S T) : Le (ahead x S) (ahead x T) := by
  intro r hr
  by_cases hT : idle x T = true
  · have hS := idle_mono h hT
    simp only [ahead, if_pos hT]
    simp only [ahead, if_pos hS] at hr
    exact h r hr
  · by_cases hS : idle x S = true
    · simp only [ahead, if_neg hT]
      simp only [ahead, if_pos hS] at hr
      have hd : S x.d = false := by
        simp only [idle, Bool.and_eq_true, Bool.not_eq_true'] at hS
        exact hS.2
      have hne : r ≠ x.d := fun he => by rw [he, hd] at hr; exact absurd hr (by decide)
      simp [h r hr, hne]
    · simp only [ahead, if_neg hT]
      simp only [ahead, if_neg hS, Bool.or_eq_true, Bool.and_eq_true] at hr
      simp only [Bool.or_eq_true, Bool.and_eq_true]
      rcases hr with hr | hr
      · exact .inl ⟨h r hr.1, hr.2⟩
      · exact .inr hr
/-- What is wanted ahead of a row of instructions. -/
def back : List I → RS → RS
  | [], S => S
  | x :: l, S => ahead x (back l S)
theorem back_mono (l : List I) {S T : RS} (h : Le S T) : Le (back l S) (back l T) := by
  induction l with
  | nil => exact h
  | cons x l ih => exact ahead_mono x ih
/-- What is wanted behind a block. -/
def endd (nb : Nat) (W : Nat → RS) (next : List Int) : RS := fun r => next.any fun n => decide (0 ≤ n) && decide (n < nb) && W n.toNat r
theorem endd_true {nb : Nat} {W : Nat → RS} {next : List Int} {r : Int} : endd nb W next r = true ↔ ∃ n : Nat, (n : Int) ∈ next ∧ n < nb ∧ W n r = true := by
  simp only [endd, List.any_eq_true, Bool.and_eq_true, decide_eq_true_eq]
  constructor
  · rintro ⟨n, hn, ⟨h0, h1⟩, h2⟩
    exact ⟨n.toNat, by rw [Int.toNat_of_nonneg h0]; exact hn, by omega, h2⟩
  · rintro ⟨n, hn, h1, h2⟩
    exact ⟨n, hn, ⟨by omega, by omega⟩, by simpa using h2⟩
theorem endd_mono {nb : Nat} {W V : Nat → RS} (next : List Int) (h : ∀ n, n < nb → Le (W n) (V n)) : Le (endd nb W next) (endd nb V next) := by
  intro r hr
  obtain ⟨n, h0, h1, h2⟩ := endd_true.mp hr
  exact endd_true.mpr ⟨n, h0, h1, h n h1 r h2⟩
theorem endd_congr {nb : Nat} {W V : Nat → RS} (next : List Int) (h : ∀ n, n < nb → W n = V n) : endd nb W next = endd nb V next :=
  le_antisymm' (endd_mono next fun n hn => by rw [h n hn]; exact Le.rfl') (endd_mono next fun n hn => by rw [h n hn]; exact Le.rfl')

/-- A code: its blocks, their instructions and what comes behind them. -/
abbrev Blk := List I × List Int
/-- A set that holds registers alone. -/
def Regs (S : RS) : Prop := ∀ r, S r = true → inR r = true
theorem ahead_regs (x : I) {S : RS} (h : Regs S) : Regs (ahead x S) := by
  intro r hr
  simp only [ahead] at hr
  split at hr
  · exact h r hr
  · simp only [Bool.or_eq_true, Bool.and_eq_true] at hr
    rcases hr with hr | hr
    · exact h r hr.1
    · exact hr.1
theorem back_regs (l : List I) {S : RS} (h : Regs S) : Regs (back l S) := by
  induction l with
  | nil => exact h
  | cons x l ih => exact ahead_regs x ih
theorem endd_regs {nb : Nat} {W : Nat → RS} (next : List Int) (h : ∀ n, n < nb → Regs (W n)) : Regs (endd nb W next) := by
  intro r hr
  obtain ⟨n, h0, h1, h2⟩ := endd_true.mp hr
  exact h n h1 r h2

def Pre (c : List Blk) (P : Nat → RS) : Prop := ∀ b B, c[b]? = some B → Le (back B.1 (endd c.length P B.2)) (P b)
/-- The answer: the rules hold, and it is the least of those that the rules do not lead out of. -/
structure Lfp (c : List Blk) (W : Nat → RS) : Prop where
  fix : ∀ b B, c[b]? = some B → W b = back B.1 (endd c.length W B.2)
  least : ∀ P, Pre c P → ∀ b, b < c.length → Le (W b) (P b)
theorem Lfp.unique {c : List Blk} {W V : Nat → RS} (h : Lfp c W) (h2 : Lfp c V) {b : Nat} (hb : b < c.length) : W b = V b :=
  le_antisymm' (h.least V (fun b B hB => by rw [← h2.fix b B hB]; exact Le.rfl') b hb) (h2.least W (fun b B hB => by rw [← h.fix b B hB]; exact Le.rfl') b hb)
theorem Lfp.regs {c : List Blk} {W : Nat → RS} (h : Lfp c W) {b : Nat} (hb : b < c.length) : Regs (W b) := by
  have := h.least (fun b r => W b r && inR r) (fun b B hB r hr => by
    have h1 : Le (endd c.length (fun b r => W b r && inR r) B.2) (endd c.length W B.2) := endd_mono _ (fun n _ r hr => by simp only [Bool.and_eq_true] at hr; exact hr.1)
    have h2 : W b r = true := by rw [h.fix b B hB]; exact back_mono _ h1 r hr
    have h3 : inR r = true := back_regs _ (endd_regs _ (fun n _ r hr => by simp only [Bool.and_eq_true] at hr; exact hr.2)) r hr
    simp only [h2, h3, Bool.and_self]) b hb
  intro r hr
  have h := this r hr
  simp only [Bool.and_eq_true] at h
  exact h.2

section
variable {α : Type} (f : α → I)
/-- What stays of a row, where these are wanted behind it. -/
def strip : List α → RS → List α
  | [], _ => []
  | x :: l, S => if idle (f x) (back (l.map f) S) = true then strip l S else x :: strip l S
/-- The code behind Run. -/
abbrev Cd (α : Type) := List (List α × List Int)
def abs (c : Cd α) : List Blk := c.map fun b => (b.1.map f, b.2)
def run (W : Nat → RS) (c : Cd α) : Cd α := c.map fun b => (strip f b.1 (endd c.length W b.2), b.2)
end
end Go.Proofs.Ytklknkfoafdgpaa.LiveT
