/- Profile: the order of the hot functions, and that a list which is sorted so is one. Plain lists. -/
/- Profile: the counts that Hot keeps, as a map that is read. Plain lists. -/
import Derived.Sort.LotA
import Derived.RowKit
import Derived.Maps.Views
import Derived.Lib.SlKeysI
namespace Go.Proofs.YtjeaojolhdfpeaaGreat.HotP
open Go.Sort
set_option linter.unusedVariables false
set_option linter.unusedSimpArgs false

def cmpI (a b : Int) : Int := if a < b then -1 else if b < a then 1 else 0
def orI (a b : Int) : Int := if a ≠ 0 then a else b
/-- The more often first; of as many the smaller number. -/
def cf (c : Int → Int) (x y : Int) : Int := orI (cmpI (c y) (c x)) (cmpI x y)
def lt (c : Int → Int) (x y : Int) : Bool := decide (cf c x y < 0)
theorem cf_neg (c : Int → Int) (x y : Int) : cf c x y < 0 ↔ c y < c x ∨ (c y = c x ∧ x < y) := by
  unfold cf orI cmpI
  repeat' split
  all_goals omega
theorem lt_iff (c : Int → Int) (x y : Int) : lt c x y = true ↔ c y < c x ∨ (c y = c x ∧ x < y) := by
  unfold lt
  rw [decide_eq_true_iff]
  exact cf_neg c x y
theorem lt_no (c : Int → Int) (x y : Int) : lt c x y = false ↔ ¬ (c y < c x ∨ (c y = c x ∧ x < y)) := by
  rw [← lt_iff c x y]
  simp
theorem swo (c : Int → Int) : SWO (lt c) where
  irrefl x := (lt_no c x x).2 (by omega)
  trans x y z h1 h2 := (lt_iff c x z).2 (by have := (lt_iff c x y).1 h1; have := (lt_iff c y z).1 h2; omega)
  ntrans x y z h1 h2 := (lt_no c x z).2 (by have := (lt_no c x y).1 h1; have := (lt_no c y z).1 h2; omega)
theorem total (c : Int → Int) (x y : Int) (h1 : lt c x y = false) (h2 : lt c y x = false) : x = y := by
  have := (lt_no c x y).1 h1
  have := (lt_no c y x).1 h2
  omega
end Go.Proofs.YtjeaojolhdfpeaaGreat.HotP

namespace Go.Proofs.YtjeaojolhdfpeaaGreat.HotM
open Go.RowKit Go.Maps
set_option linter.unusedVariables false
set_option linter.unusedSimpArgs false

abbrev kz (x : Int) : Lit := .int .i64 x
abbrev vz (x : Int) : DataW Unit := .lit (.int .i64 x)
/-- What the map holds behind k rounds. -/
def Cd (c : Nat → Int) (least : Int) : Nat → DataW Unit
  | 0 => .map []
  | k + 1 => if least ≤ c k then (Cd c least k).put (kz k) (vz (c k)) else Cd c least k
/-- What is read at a key. -/
def val (c : Nat → Int) (least : Int) : Nat → Int → Int
  | 0, _ => 0
  | k + 1, x => if least ≤ c k ∧ x = (k : Int) then c k else val c least k x
theorem mem_insert {x p : Lit × DataW Unit} : ∀ l : List (Lit × DataW Unit), p ∈ DataW.insert x l → p = x ∨ p ∈ l
  | [], h => by simpa [DataW.insert] using h
  | y :: l, h => by
    unfold DataW.insert at h
    split at h
    · rcases List.mem_cons.1 h with h | h
      · exact .inl h
      · exact .inr h
    · rcases List.mem_cons.1 h with h | h
      · exact .inr (by rw [h]; exact List.mem_cons_self ..)
      · rcases mem_insert l h with h | h
        · exact .inl h
        · exact .inr (List.mem_cons_of_mem _ h)
variable (c : Nat → Int) (least : Int)
theorem Cd_tidy : ∀ k, Tidy (Cd c least k)
  | 0 => tidy_empty
  | k + 1 => by
    unfold Cd
    split
    · exact (Cd_tidy k).put (by simp [WideAt.IsKeyLit]) _
    · exact Cd_tidy k
theorem Cd_keys : ∀ k es, Cd c least k = .map es → ∀ p ∈ es, ∃ x, p.1 = .int .i64 x
  | 0, es, h, p, hp => by
    have h1 : (DataW.map [] : DataW Unit) = .map es := h
    cases h1
    cases hp
  | k + 1, es, h, p, hp => by
    unfold Cd at h
    split at h
    · obtain ⟨es0, h0, _⟩ := Cd_tidy c least k
      rw [h0] at h
      have h1 : (DataW.map (DataW.insert (kz k, vz (c k)) (es0.filter fun p => !p.1.sameKey (kz k))) : DataW Unit) = .map es := h
      cases h1
      rcases mem_insert _ hp with h2 | h2
      · exact ⟨_, by rw [h2]⟩
      · exact Cd_keys k es0 h0 p (List.mem_filter.1 h2).1
    · exact Cd_keys k es h p hp
theorem kz_ne {x y : Int} (h : x ≠ y) : kz x ≠ kz y := fun e => h (by injection e)
theorem Cd_has (x : Int) : ∀ k, Maps.has (Cd c least k) (kz x) = true ↔ ∃ j, j < k ∧ x = ((j : Nat) : Int) ∧ least ≤ c j
  | 0 => by
    constructor
    · intro h
      have h1 : Maps.has (DataW.map [] : DataW Unit) (kz x) = true := h
      rw [has_eq] at h1
      simp at h1
    · rintro ⟨j, hj, _⟩
      exact absurd hj (Nat.not_lt_zero _)
  | k + 1 => by
    have ih := Cd_has x k
    unfold Cd
    by_cases hc : least ≤ c k
    · rw [if_pos hc]
      by_cases hx : x = (k : Int)
      · rw [hx, has_put_same (Cd_tidy c least k).isMap (by simp [WideAt.IsKeyLit])]
        simp only [true_iff]
        exact ⟨k, by omega, rfl, hc⟩
      · rw [has_put_other (kz_ne hx), ih]
        constructor
        · rintro ⟨j, h1, h2, h3⟩
          exact ⟨j, by omega, h2, h3⟩
        · rintro ⟨j, h1, h2, h3⟩
          exact ⟨j, by rcases Nat.lt_or_ge j k with h | h; exact h; exact absurd (by rw [h2]; congr 1; omega) hx, h2, h3⟩
    · rw [if_neg hc, ih]
      constructor
      · rintro ⟨j, h1, h2, h3⟩
        exact ⟨j, by omega, h2, h3⟩
      · rintro ⟨j, h1, h2, h3⟩
        refine ⟨j, ?_, h2, h3⟩
        rcases Nat.lt_or_ge j k with h | h
        · exact h
        · have : j = k := by omega
          subst this
          exact absurd h3 hc
theorem Cd_at (x : Int) : ∀ k, (Cd c least k).atKey (kz x) (vz 0) = vz (val c least k x)
  | 0 => rfl
  | k + 1 => by
    have ih := Cd_at x k
    unfold Cd val
    by_cases hc : least ≤ c k
    · rw [if_pos hc]
      by_cases hx : x = (k : Int)
      · rw [if_pos ⟨hc, hx⟩, hx, atKey_put_same (Cd_tidy c least k).isMap (by simp [WideAt.IsKeyLit])]
      · rw [if_neg (fun h => hx h.2), atKey_put_other (kz_ne hx), ih]
    · rw [if_neg hc, if_neg (fun h => hc h.1), ih]
theorem Cd_size : ∀ k, Maps.size (Cd c least k) ≤ k
  | 0 => Nat.le_refl _
  | k + 1 => by
    have ih := Cd_size k
    unfold Cd
    split
    · rw [size_put (Cd_tidy c least k)]
      split <;> omega
    · omega
/-- A row of the numbers of those functions, each once: the map's keys. -/
theorem perm_keys {k : Nat} {L : List Int} (hn : L.Nodup) (hm : ∀ x, x ∈ L ↔ ∃ j, j < k ∧ x = ((j : Nat) : Int) ∧ least ≤ c j) : L.Perm (intKeys (Cd c least k)) := by
  obtain ⟨es, he, hp⟩ := Cd_tidy c least k
  have hk := Cd_keys c least k es he
  have hh := fun x => Cd_has c least x k
  rw [he] at hh ⊢
  exact perm_intKeys hp hk hn (fun x => (hm x).trans (hh x).symm)
end Go.Proofs.YtjeaojolhdfpeaaGreat.HotM
