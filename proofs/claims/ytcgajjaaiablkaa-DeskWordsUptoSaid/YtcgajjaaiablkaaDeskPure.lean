/- The words of a line as plain functions of its bytes, and what the printed functions come to. -/
import Derived.Test.YtcgajjaaiablkaaPDeskWordsx1
import Derived.Test.YtcgajjaaiablkaaPDeskWordsx4
import Derived.Test.YtcgajjaaiablkaaPDeskWordsx5
namespace Go.Proofs.Ytcgajjaaiablkaa.Desk
open Go.RowKit Go.Proofs.YtcgajjaaiablkaaW.PrintWords Go.Proofs.YtcgajjaaiablkaaW.PrintLast Go.Proofs.YtcgajjaaiablkaaW.PrintMore
open Go.Proofs.Ytcgajjaaiablkaa.PDeskWords
set_option linter.unusedVariables false
set_option linter.unusedSimpArgs false

/-- The byte at a place. -/
def at_ (s : ByteArray) (i : Nat) : Int := bt s (i : Int)
theorem at_range (s : ByteArray) (i : Nat) : 0 ≤ at_ s i ∧ at_ s i ≤ 255 := bt_range s i
theorem at_extract (s : ByteArray) (a b i : Nat) (h : a + i < b) (hb : b ≤ s.size) : at_ (s.extract a b) i = at_ s (a + i) := by
  unfold at_ bt
  have h1 : ((i : Nat) : Int).toNat < (s.extract a b).size := by
    simp only [Int.toNat_natCast, ByteArray.size_extract]
    omega
  have h2 : ((a + i : Nat) : Int).toNat < s.size := by
    simp only [Int.toNat_natCast]
    omega
  rw [dif_pos h1, dif_pos h2]
  simp only [Int.toNat_natCast]
  congr 2
  exact ByteArray.getElem_extract (by simpa using h1)
theorem size_extract (s : ByteArray) (a b : Nat) (hb : b ≤ s.size) : (s.extract a b).size = b - a := by
  rw [ByteArray.size_extract]
  omega
def blank (c : Int) : Bool := decide (c = 32) || (decide (c = 9) || decide (c = 13))
theorem blank_ref (c : Int) : portageref32_blank.f c = some (blank c) := by
  unfold portageref32_blank.f blank
  by_cases h1 : c = 32
  · rw [if_pos h1, decide_eq_true h1]; rfl
  · rw [if_neg h1, decide_eq_false h1]
    by_cases h2 : c = 9
    · rw [if_pos h2, decide_eq_true h2]; rfl
    · rw [if_neg h2, decide_eq_false h2]
      simp
      rfl
def hexw (c : Int) : Int := if 48 ≤ c ∧ c ≤ 57 then c - 48 else if 97 ≤ c ∧ c ≤ 102 then c - 87 else if 65 ≤ c ∧ c ≤ 70 then c - 55 else 16
theorem hexw_range (c : Int) : 0 ≤ hexw c ∧ hexw c ≤ 16 := by
  unfold hexw
  repeat' split
  all_goals omega
theorem worth_f (c : Int) (h : 0 ≤ c ∧ c ≤ 255) (k : Nat) : portageref11_worth.f (k + 2) c = some (hexw c) := by
  unfold portageref11_worth.f hexw
  by_cases h1 : c ≥ 48
  · rw [if_pos h1]
    by_cases h2 : c ≤ 57
    · rw [decide_eq_true h2, if_pos (by omega)]
      simp only [portageref11_worth.j0, if_true]
      congr 1
      omega
    · rw [decide_eq_false h2, if_neg (by omega)]
      simp only [portageref11_worth.j0]
      rw [if_neg (by simp)]
      by_cases h3 : c ≥ 97
      · rw [if_pos h3]
        by_cases h4 : c ≤ 102
        · rw [decide_eq_true h4, if_pos (by omega)]
          simp only [portageref11_worth.j1, if_true]
          congr 1
          omega
        · rw [decide_eq_false h4, if_neg (by omega), if_neg (by omega)]
          simp only [portageref11_worth.j1]
          rw [if_neg (by simp), if_pos (by omega), if_neg (by omega)]
      · rw [if_neg h3, if_neg (by omega)]
        simp only [portageref11_worth.j1]
        rw [if_neg (by simp)]
        by_cases h5 : c ≥ 65
        · rw [if_pos h5]
          by_cases h6 : c ≤ 70
          · rw [if_pos h6, if_pos (by omega)]
            congr 1
            omega
          · rw [if_neg h6, if_neg (by omega)]
        · rw [if_neg h5, if_neg (by omega)]
  · rw [if_neg h1, if_neg (by omega), if_neg (by omega), if_neg (by omega)]
    simp only [portageref11_worth.j0]
    rw [if_neg (by simp), if_neg (by omega)]
    simp only [portageref11_worth.j1]
    rw [if_neg (by simp), if_neg (by omega)]
theorem hex_f (c : Int) (h : 0 ≤ c ∧ c ≤ 255) (k : Nat) : asm_hex.f (k + 2) c = some (if hexw c ≤ 15 then (hexw c, true) else (0, false)) := by
  unfold asm_hex.f hexw
  by_cases h1 : c ≥ 48
  · rw [if_pos h1]
    by_cases h2 : c ≤ 57
    · rw [decide_eq_true h2, if_pos (show 48 ≤ c ∧ c ≤ 57 by omega), if_pos (by omega)]
      simp only [asm_hex.j0, if_true]
      congr 2
      omega
    · rw [decide_eq_false h2, if_neg (show ¬ (48 ≤ c ∧ c ≤ 57) by omega)]
      simp only [asm_hex.j0]
      rw [if_neg (by simp)]
      by_cases h3 : c ≥ 97
      · rw [if_pos h3]
        by_cases h4 : c ≤ 102
        · rw [decide_eq_true h4, if_pos (show 97 ≤ c ∧ c ≤ 102 by omega), if_pos (by omega)]
          simp only [asm_hex.j1, if_true]
          congr 2
          omega
        · rw [decide_eq_false h4, if_neg (show ¬ (97 ≤ c ∧ c ≤ 102) by omega), if_neg (show ¬ (65 ≤ c ∧ c ≤ 70) by omega), if_neg (by omega)]
          simp only [asm_hex.j1]
          rw [if_neg (by simp), if_pos (by omega), if_neg (by omega)]
      · rw [if_neg h3, if_neg (show ¬ (97 ≤ c ∧ c ≤ 102) by omega)]
        simp only [asm_hex.j1]
        rw [if_neg (by simp)]
        by_cases h5 : c ≥ 65
        · rw [if_pos h5]
          by_cases h6 : c ≤ 70
          · rw [if_pos h6, if_pos (show 65 ≤ c ∧ c ≤ 70 by omega), if_pos (by omega)]
            congr 2
            omega
          · rw [if_neg h6, if_neg (show ¬ (65 ≤ c ∧ c ≤ 70) by omega), if_neg (by omega)]
        · rw [if_neg h5, if_neg (show ¬ (65 ≤ c ∧ c ≤ 70) by omega), if_neg (by omega)]
  · rw [if_neg h1, if_neg (show ¬ (48 ≤ c ∧ c ≤ 57) by omega), if_neg (show ¬ (97 ≤ c ∧ c ≤ 102) by omega), if_neg (show ¬ (65 ≤ c ∧ c ≤ 70) by omega), if_neg (by omega)]
    simp only [asm_hex.j0]
    rw [if_neg (by simp), if_neg (by omega)]
    simp only [asm_hex.j1]
    rw [if_neg (by simp), if_neg (by omega)]

/-- One byte of a quoted word, from place i on, the word's end at e: the byte, how many bytes it takes. -/
def one (s : ByteArray) (i e : Nat) : Option (Int × Nat) :=
  if at_ s i = 34 ∨ at_ s i = 10 then none
  else if at_ s i ≠ 92 then some (at_ s i, 1)
  else if e ≤ i + 1 then none
  else if at_ s (i + 1) = 34 ∨ at_ s (i + 1) = 92 then some (at_ s (i + 1), 2)
  else if at_ s (i + 1) = 110 then some (10, 2)
  else if at_ s (i + 1) ≠ 120 then none
  else if e ≤ i + 3 then none
  else if hexw (at_ s (i + 2)) > 15 ∨ hexw (at_ s (i + 3)) > 15 then none
  else some (16 * hexw (at_ s (i + 2)) + hexw (at_ s (i + 3)), 4)
theorem one_range {s : ByteArray} {i e n : Nat} {c : Int} (h : one s i e = some (c, n)) (hi : i < e) : 0 ≤ c ∧ c ≤ 255 ∧ 1 ≤ n ∧ i + n ≤ e := by
  have r0 := at_range s i
  have r1 := at_range s (i + 1)
  have r2 := hexw_range (at_ s (i + 2))
  have r3 := hexw_range (at_ s (i + 3))
  unfold one at h
  repeat' split at h
  all_goals first | (cases h; done) | (injection h with h; injection h with h1 h2; subst h1 h2; omega)
theorem one_extract (s : ByteArray) (a b i : Nat) (h : a + i < b) (hb : b ≤ s.size) : one (s.extract a b) i (b - a) = one s (a + i) b := by
  unfold one
  rw [at_extract s a b i h hb]
  by_cases h1 : b ≤ a + i + 1
  · rw [if_pos (show b - a ≤ i + 1 by omega), if_pos h1]
  · rw [if_neg (show ¬ b - a ≤ i + 1 by omega), if_neg h1, at_extract s a b (i + 1) (by omega) hb]
    by_cases h2 : b ≤ a + i + 3
    · rw [if_pos (show b - a ≤ i + 3 by omega), if_pos h2]
      rfl
    · rw [if_neg (show ¬ b - a ≤ i + 3 by omega), if_neg h2, at_extract s a b (i + 2) (by omega) hb, at_extract s a b (i + 3) (by omega) hb]
      rfl
theorem or16 (a b : Int) (ha : 0 ≤ a ∧ a ≤ 15) (hb : 0 ≤ b ∧ b ≤ 15) : Go.bits .or .u8 ((a * 16) % 256) b = 16 * a + b := by
  have h : ∀ x y : Fin 16, Go.bits .or .u8 ((((x.val : Nat) : Int) * 16) % 256) ((y.val : Nat) : Int) = 16 * ((x.val : Nat) : Int) + ((y.val : Nat) : Int) := by decide +kernel
  have := h ⟨a.toNat, by omega⟩ ⟨b.toNat, by omega⟩
  simp only at this
  rwa [show ((a.toNat : Nat) : Int) = a by omega, show ((b.toNat : Nat) : Int) = b by omega] at this
theorem first_f (s : ByteArray) (h0 : 0 < s.size) (k : Nat) : match one s 0 s.size with
    | some (c, n) => asm_first.f (k + 5) s = some (c, s.extract n s.size, true)
    | none => ∃ x r, asm_first.f (k + 5) s = some (x, r, false) := by
  have e0 : bt s 0 = at_ s 0 := rfl
  have e1 : bt s 1 = at_ s 1 := rfl
  have e2 : bt s 2 = at_ s 2 := rfl
  have e3 : bt s 3 = at_ s 3 := rfl
  have r2 := at_range s 2
  have r3 := at_range s 3
  have w2 := hexw_range (at_ s 2)
  have w3 := hexw_range (at_ s 3)
  unfold one asm_first.f
  simp only [Nat.zero_add, e0]
  rw [if_pos (show (0 : Int) < (s.size : Int) by omega)]
  by_cases a0 : at_ s 0 = 34
  · rw [if_pos a0, if_pos (.inl a0)]
    simp only [asm_first.j0]
    rw [if_pos (show (at_ s 0 == 34) = true by simpa using a0)]
    exact ⟨_, _, rfl⟩
  rw [if_neg a0]
  by_cases a1 : at_ s 0 = 10
  · rw [if_pos (.inr a1)]
    simp only [asm_first.j0, a1]
    exact ⟨_, _, rfl⟩
  rw [if_neg (show ¬ (at_ s 0 = 34 ∨ at_ s 0 = 10) by omega)]
  simp only [asm_first.j0]
  rw [if_neg (show ¬ (at_ s 0 == 10) = true by simpa using a1)]
  by_cases a2 : at_ s 0 = 92
  · rw [if_neg (show ¬ at_ s 0 ≠ 92 by simpa using a2), if_pos a2]
    by_cases a3 : s.size ≤ 1
    · rw [if_pos a3, if_pos (show (s.size : Int) < 2 by omega)]
      exact ⟨_, _, rfl⟩
    rw [if_neg a3, if_neg (show ¬ (s.size : Int) < 2 by omega), if_pos (show (1 : Int) < (s.size : Int) by omega)]
    simp only [e1]
    by_cases a4 : at_ s 1 = 34
    · rw [if_pos a4, if_pos (.inl a4)]
      simp only [asm_first.j1]
      rw [if_pos (show (at_ s 1 == 34) = true by simpa using a4), if_pos (show (1 : Int) < (s.size : Int) by omega), if_pos (show (2 : Int) ≤ (s.size : Int) by omega)]
      rfl
    rw [if_neg a4]
    by_cases a5 : at_ s 1 = 92
    · rw [if_pos (.inr a5)]
      simp only [asm_first.j1]
      rw [if_pos (show (at_ s 1 == 92) = true by simpa using a5), if_pos (show (1 : Int) < (s.size : Int) by omega), if_pos (show (2 : Int) ≤ (s.size : Int) by omega)]
      rfl
    rw [if_neg (show ¬ (at_ s 1 = 34 ∨ at_ s 1 = 92) by omega)]
    simp only [asm_first.j1]
    rw [if_neg (show ¬ (at_ s 1 == 92) = true by simpa using a5)]
    by_cases a6 : at_ s 1 = 110
    · rw [if_pos a6, if_pos a6, if_pos (show (2 : Int) ≤ (s.size : Int) by omega)]
    rw [if_neg a6, if_neg a6]
    by_cases a7 : at_ s 1 = 120
    · rw [if_pos a7, if_neg (show ¬ at_ s 1 ≠ 120 by simpa using a7)]
      by_cases a8 : s.size ≤ 3
      · rw [if_pos a8, if_neg (show ¬ (s.size : Int) ≥ 4 by omega)]
        exact ⟨_, _, rfl⟩
      rw [if_neg a8, if_pos (show (s.size : Int) ≥ 4 by omega), if_pos (show (2 : Int) < (s.size : Int) by omega)]
      simp only [e2, e3]
      rw [hex_f _ r2 (k + 1), Option.bind_some, if_pos (show (3 : Int) < (s.size : Int) by omega), hex_f _ r3 (k + 1), Option.bind_some, if_pos (show (4 : Int) ≤ (s.size : Int) by omega)]
      by_cases b2 : hexw (at_ s 2) ≤ 15
      · by_cases b3 : hexw (at_ s 3) ≤ 15
        · rw [if_pos b2, if_pos b3, if_neg (show ¬ (hexw (at_ s 2) > 15 ∨ hexw (at_ s 3) > 15) by omega)]
          simp only [if_true]
          rw [or16 _ _ (by omega) (by omega)]
        · rw [if_pos b2, if_neg b3, if_pos (show (hexw (at_ s 2) > 15 ∨ hexw (at_ s 3) > 15) by omega)]
          exact ⟨_, _, rfl⟩
      · rw [if_neg b2, if_pos (show (hexw (at_ s 2) > 15 ∨ hexw (at_ s 3) > 15) by omega)]
        exact ⟨_, _, rfl⟩
    · rw [if_neg a7, if_pos a7]
      exact ⟨_, _, rfl⟩
  · rw [if_pos a2, if_neg a2]
    simp only
    rw [if_pos (show (0 : Int) < (s.size : Int) by omega), if_pos (show (1 : Int) ≤ (s.size : Int) by omega)]
    rfl

/-- The bytes of a quoted word from i to e; fuel: as many bytes as there are, and one. -/
def unq (s : ByteArray) (e : Nat) : Nat → Nat → Option (List Int)
  | 0, _ => none
  | f + 1, i => if i < e then (one s i e).bind fun p => (unq s e f (i + p.2)).map (p.1 :: ·) else some []
theorem unq_fuel (s : ByteArray) (e : Nat) : ∀ (f g i : Nat), e - i < f → e - i < g → unq s e f i = unq s e g i := by
  intro f
  induction f with
  | zero => intro g i h; omega
  | succ f ih =>
    intro g i h hg
    obtain ⟨g, rfl⟩ : ∃ m, g = m + 1 := ⟨g - 1, by omega⟩
    simp only [unq]
    by_cases hi : i < e
    · rw [if_pos hi, if_pos hi]
      cases hone : one s i e with
      | none => rfl
      | some p =>
        have hr := one_range (c := p.1) (n := p.2) hone hi
        simp only [Option.bind_some]
        rw [ih g (i + p.2) (by omega) (by omega)]
    · rw [if_neg hi, if_neg hi]
theorem unq_extract (s : ByteArray) (a b : Nat) (hb : b ≤ s.size) : ∀ (f i : Nat), unq (s.extract a b) (b - a) f i = unq s b f (a + i) := by
  intro f
  induction f with
  | zero => intro i; rfl
  | succ f ih =>
    intro i
    simp only [unq]
    by_cases hi : a + i < b
    · rw [if_pos (show i < b - a by omega), if_pos hi, one_extract s a b i hi hb]
      simp only [ih, Nat.add_assoc]
    · rw [if_neg (show ¬ i < b - a by omega), if_neg hi]
/-- What a quoted word says. -/
def unquote (s : ByteArray) : Option (List Int) :=
  if s.size < 2 ∨ at_ s 0 ≠ 34 ∨ at_ s (s.size - 1) ≠ 34 then none else unq s (s.size - 1) (s.size + 1) 1

/-- Where a quoted word ends. -/
def clo (s : ByteArray) (j : Nat) : Option Nat :=
  if h : j < s.size then if at_ s j = 92 then clo s (j + 2) else if at_ s j = 34 then some (j + 1) else clo s (j + 1) else none
  termination_by s.size - j
theorem clo_at (s : ByteArray) (j : Nat) : clo s j = if j < s.size then if at_ s j = 92 then clo s (j + 2) else if at_ s j = 34 then some (j + 1) else clo s (j + 1) else none := by
  rw [clo]
  split <;> rfl
theorem clo_range (s : ByteArray) (d : Nat) : ∀ (j : Nat) (e : Nat), s.size - j = d → clo s j = some e → j < e ∧ e ≤ s.size := by
  induction d using Nat.strongRecOn with
  | ind d ih =>
    intro j e hd h
    rw [clo_at] at h
    by_cases hj : j < s.size
    · rw [if_pos hj] at h
      by_cases h1 : at_ s j = 92
      · rw [if_pos h1] at h
        have := ih (s.size - (j + 2)) (by omega) (j + 2) e rfl h
        omega
      · rw [if_neg h1] at h
        by_cases h2 : at_ s j = 34
        · rw [if_pos h2] at h
          injection h with h
          omega
        · rw [if_neg h2] at h
          have := ih (s.size - (j + 1)) (by omega) (j + 1) e rfl h
          omega
    · rw [if_neg hj] at h
      cases h
def cloI (s : ByteArray) (j : Nat) : Int := match clo s j with | some e => (e : Int) | none => -1
theorem cloI_at (s : ByteArray) (j : Nat) : cloI s j = if j < s.size then if at_ s j = 92 then cloI s (j + 2) else if at_ s j = 34 then ((j + 1 : Nat) : Int) else cloI s (j + 1) else -1 := by
  unfold cloI
  rw [clo_at]
  repeat' split
  all_goals simp_all
theorem wrapN (i m n : Nat) (h : i + m ≤ n) (hn : n ≤ 9223372036854775807) : wrap64 ((i : Int) + (m : Int)) = ((i + m : Nat) : Int) := by unfold wrap64; omega
theorem closes_l0 (s : ByteArray) (hs : s.size ≤ 9223372036854775000) (d : Nat) : ∀ j : Nat, s.size - j = d → j ≤ s.size + 2 → Ev (fun k => portageref32_closes.l0 k s (j : Int)) (cloI s j) := by
  induction d using Nat.strongRecOn with
  | ind d ih =>
    intro j hd hle
    have w1 : wrap64 ((j : Int) + 1) = ((j + 1 : Nat) : Int) := by unfold wrap64; omega
    have w2 : wrap64 (wrap64 ((j : Int) + 1) + 1) = ((j + 2 : Nat) : Int) := by unfold wrap64; omega
    have e : bt s (j : Int) = at_ s j := rfl
    rw [cloI_at]
    by_cases hj : j < s.size
    · rw [if_pos hj]
      by_cases h2 : at_ s j = 34
      · rw [if_neg (show ¬ at_ s j = 92 by omega), if_pos h2]
        refine Ev.step (f := fun k => portageref32_closes.j1 k s (j : Int) (at_ s j != 34)) (fun k => ?_) (Ev.step (f := fun _ => some ((j + 1 : Nat) : Int)) (fun k => ?_) (Ev.now _))
        · simp only [portageref32_closes.l0, e]
          rw [if_pos (by omega), if_pos (by omega)]
        · simp only [portageref32_closes.j1]
          rw [if_neg (by simp [h2]), if_neg (by omega), w1]
      · have hne : (at_ s j != 34) = true := by simpa using h2
        by_cases h1 : at_ s j = 92
        · rw [if_pos h1]
          refine Ev.step (f := fun k => portageref32_closes.j1 k s (j : Int) (at_ s j != 34)) (fun k => ?_) (Ev.step (fun k => ?_) (ih (s.size - (j + 2)) (by omega) (j + 2) rfl (by omega)))
          · simp only [portageref32_closes.l0, e]
            rw [if_pos (by omega), if_pos (by omega)]
          · simp only [portageref32_closes.j1, e]
            rw [if_pos hne, if_pos (by omega), if_pos (by omega), if_pos h1, w2]
        · rw [if_neg h1, if_neg h2]
          refine Ev.step (f := fun k => portageref32_closes.j1 k s (j : Int) (at_ s j != 34)) (fun k => ?_) (Ev.step (fun k => ?_) (ih (s.size - (j + 1)) (by omega) (j + 1) rfl (by omega)))
          · simp only [portageref32_closes.l0, e]
            rw [if_pos (by omega), if_pos (by omega)]
          · simp only [portageref32_closes.j1, e]
            rw [if_pos hne, if_pos (by omega), if_pos (by omega), if_neg h1, w1]
    · rw [if_neg hj]
      refine Ev.step (f := fun k => portageref32_closes.j1 k s (j : Int) false) (fun k => ?_) (Ev.step (f := fun _ => some (-1)) (fun k => ?_) (Ev.now _))
      · simp only [portageref32_closes.l0]
        rw [if_neg (by omega)]
      · simp only [portageref32_closes.j1]
        rw [if_neg (by simp), if_pos (by omega)]
theorem closes_f (s : ByteArray) (i : Nat) (hi : i < s.size) (hs : s.size ≤ 9223372036854775000) : ∃ k, portageref32_closes.f k s (i : Int) = some (cloI s (i + 1)) := by
  obtain ⟨k, hk⟩ := (closes_l0 s hs _ (i + 1) rfl (by omega)).rounds
  refine ⟨k, ?_⟩
  unfold portageref32_closes.f
  rw [show wrap64 ((i : Int) + 1) = ((i + 1 : Nat) : Int) by unfold wrap64; omega]
  exact hk
theorem quoted_l0 (s : ByteArray) (hs : s.size ≤ 9223372036854775000) (d : Nat) : ∀ j : Nat, s.size - j = d → j ≤ s.size + 2 → Ev (fun k => desk_quoted.l0 k s (j : Int)) (cloI s j) := by
  induction d using Nat.strongRecOn with
  | ind d ih =>
    intro j hd hle
    have w1 : wrap64 ((j : Int) + 1) = ((j + 1 : Nat) : Int) := by unfold wrap64; omega
    have w2 : wrap64 (wrap64 ((j : Int) + 1) + 1) = ((j + 2 : Nat) : Int) := by unfold wrap64; omega
    have e : bt s (j : Int) = at_ s j := rfl
    rw [cloI_at]
    by_cases hj : j < s.size
    · rw [if_pos hj]
      by_cases h1 : at_ s j = 92
      · rw [if_pos h1]
        refine Ev.step (fun k => ?_) (ih (s.size - (j + 2)) (by omega) (j + 2) rfl (by omega))
        simp only [desk_quoted.l0, e]
        rw [if_pos (by omega), if_pos (by omega), if_pos h1, w2]
      · rw [if_neg h1]
        by_cases h2 : at_ s j = 34
        · rw [if_pos h2]
          refine Ev.step (f := fun _ => some ((j + 1 : Nat) : Int)) (fun k => ?_) (Ev.now _)
          simp only [desk_quoted.l0, e]
          rw [if_pos (by omega), if_pos (by omega), if_neg h1, if_pos h2, w1]
        · rw [if_neg h2]
          refine Ev.step (fun k => ?_) (ih (s.size - (j + 1)) (by omega) (j + 1) rfl (by omega))
          simp only [desk_quoted.l0, e]
          rw [if_pos (by omega), if_pos (by omega), if_neg h1, if_neg h2, w1]
    · rw [if_neg hj]
      refine Ev.step (f := fun _ => some (-1)) (fun k => ?_) (Ev.now _)
      simp only [desk_quoted.l0]
      rw [if_neg (by omega)]
theorem quoted_f (s : ByteArray) (hs : s.size ≤ 9223372036854775000) : ∃ k, desk_quoted.f k s = some (cloI s 1) :=
  (quoted_l0 s hs _ 1 rfl (by omega)).rounds
theorem clo_extract (s : ByteArray) (a : Nat) (ha : a ≤ s.size) (d : Nat) : ∀ j : Nat, s.size - (a + j) = d → (clo (s.extract a s.size) j).map (a + ·) = clo s (a + j) := by
  induction d using Nat.strongRecOn with
  | ind d ih =>
    intro j hd
    have hz := size_extract s a s.size (Nat.le_refl _)
    rw [clo_at, clo_at s (a + j), hz]
    by_cases hj : a + j < s.size
    · rw [if_pos (show j < s.size - a by omega), if_pos hj, at_extract s a s.size j hj (Nat.le_refl _)]
      by_cases h1 : at_ s (a + j) = 92
      · rw [if_pos h1, if_pos h1]
        exact ih (s.size - (a + (j + 2))) (by omega) (j + 2) rfl
      · rw [if_neg h1, if_neg h1]
        by_cases h2 : at_ s (a + j) = 34
        · rw [if_pos h2, if_pos h2]
          rfl
        · rw [if_neg h2, if_neg h2]
          exact ih (s.size - (a + (j + 1))) (by omega) (j + 1) rfl
    · rw [if_neg (show ¬ j < s.size - a by omega), if_neg hj]
      rfl

/-- Where a plain word ends. -/
def wend (s : ByteArray) (j : Nat) : Nat := if h : j < s.size then if blank (at_ s j) = true then j else wend s (j + 1) else j
  termination_by s.size - j
theorem wend_at (s : ByteArray) (j : Nat) : wend s j = if j < s.size then if blank (at_ s j) = true then j else wend s (j + 1) else j := by
  rw [wend]
  split <;> rfl
theorem wend_range (s : ByteArray) (d : Nat) : ∀ j : Nat, s.size - j = d → j ≤ s.size → j ≤ wend s j ∧ wend s j ≤ s.size := by
  induction d using Nat.strongRecOn with
  | ind d ih =>
    intro j hd hle
    rw [wend_at]
    by_cases hj : j < s.size
    · rw [if_pos hj]
      by_cases h1 : blank (at_ s j) = true
      · rw [if_pos h1]; omega
      · rw [if_neg h1]
        have := ih (s.size - (j + 1)) (by omega) (j + 1) rfl (by omega)
        omega
    · rw [if_neg hj]; omega
/-- The words from place i on, behind those that were read, and the error's number. -/
def words (s : ByteArray) : Nat → Nat → List ByteArray → List ByteArray × Int
  | 0, _, acc => (acc, 0)
  | f + 1, i, acc =>
    if i < s.size then
      if blank (at_ s i) = true then words s f (i + 1) acc
      else if at_ s i = 35 then (acc, 0)
      else if at_ s i = 34 then
        match clo s (i + 1) with
        | none => ([], 6)
        | some e =>
          if e < s.size ∧ blank (at_ s e) = false then ([], 6)
          else match unquote (s.extract i e) with
            | none => ([], 6)
            | some l => words s f e (acc ++ [strOfNums l])
      else words s f (wend s i) (acc ++ [s.extract i (wend s i)])
    else (acc, 0)
end Go.Proofs.Ytcgajjaaiablkaa.Desk
