/- Profile: the reference's hot functions are the map's keys, in their order. No program. -/
import Derived.Test.YtjeaojolhdfpeaaHotW
namespace Go.Proofs.Ytjeaojolhdfpeaa.HotR
open Go.RowKit Go.Maps Go.Sort Go.Proofs.YtjeaojolhdfpeaaW.PrintWords Go.Proofs.YtjeaojolhdfpeaaW.PrintLast Go.Proofs.YtjeaojolhdfpeaaW.PrintMore
open Go.Proofs.Ytjeaojolhdfpeaa.PProfileHot Go.Proofs.Ytjeaojolhdfpeaa.HotP Go.Proofs.Ytjeaojolhdfpeaa.HotM Go.Proofs.Ytjeaojolhdfpeaa.HotW
set_option linter.unusedVariables false
set_option linter.unusedSimpArgs false

theorem ref_first (l : List (List S28)) (k : Nat) (hk : k < l.length) : ∃ r, portageref18_At.f l (k : Int) 0 = some (cnt l k, r) := by
  unfold portageref18_At.f cnt
  rw [if_neg (by omega), if_neg (by omega), if_neg (by omega), if_pos (by omega), if_pos (by omega)]
  by_cases h : (rd_L3 l (k : Int)).length = 0
  · rw [if_pos (by omega), if_pos h]
    exact ⟨(0, 0, 0), rfl⟩
  · rw [if_neg (by omega), if_neg h, if_pos (by omega), if_pos (by omega)]
    exact ⟨(_, _, _), rfl⟩
theorem wrap_nat (i n : Nat) (h : i < n) (hn : n ≤ 9223372036854775807) : wrap64 ((i : Int) + 1) = ((i + 1 : Nat) : Int) := by unfold wrap64; omega

variable (l : List (List S28)) (least : Int)
/-- Function j comes ahead of function i. -/
def Ah (c : Nat → Int) (j i : Nat) : Prop := c i < c j ∨ (c i = c j ∧ j < i)
/-- The best that is not taken, of the first i. -/
def Best (c : Nat → Int) (tk : List Bool) (i : Nat) (b : Int) : Prop :=
  (b = -1 ∧ ∀ j, j < i → rdOf false tk (j : Int) = true) ∨ (∃ q : Nat, b = (q : Int) ∧ q < i ∧ rdOf false tk (q : Int) = false ∧ ∀ j, j < i → rdOf false tk (j : Int) = false → j = q ∨ Ah c q j)
theorem best_step {c : Nat → Int} {tk : List Bool} {i : Nat} {b : Int} (h : Best c tk i b) :
    (rdOf false tk (i : Int) = true → Best c tk (i + 1) b) ∧ (rdOf false tk (i : Int) = false → b = -1 → Best c tk (i + 1) (i : Int)) ∧
    (∀ q : Nat, rdOf false tk (i : Int) = false → b = (q : Int) → c i > c q → Best c tk (i + 1) (i : Int)) ∧ (∀ q : Nat, rdOf false tk (i : Int) = false → b = (q : Int) → ¬ c i > c q → Best c tk (i + 1) b) := by
  refine ⟨fun ht => ?_, fun ht hb => ?_, fun q ht hb hc => ?_, fun q ht hb hc => ?_⟩
  · rcases h with ⟨h1, h2⟩ | ⟨q, h1, h2, h3, h4⟩
    · refine .inl ⟨h1, fun j hj => ?_⟩
      rcases Nat.lt_or_ge j i with h | h
      · exact h2 j h
      · obtain rfl : j = i := by omega
        exact ht
    · refine .inr ⟨q, h1, by omega, h3, fun j hj hf => ?_⟩
      rcases Nat.lt_or_ge j i with h | h
      · exact h4 j h hf
      · obtain rfl : j = i := by omega
        rw [ht] at hf
        cases hf
  · rcases h with ⟨h1, h2⟩ | ⟨q, h1, _⟩
    · refine .inr ⟨i, rfl, by omega, ht, fun j hj hf => ?_⟩
      rcases Nat.lt_or_ge j i with h | h
      · rw [h2 j h] at hf
        cases hf
      · exact .inl (by omega)
    · omega
  · rcases h with ⟨h1, h2⟩ | ⟨q2, h1, h2, h3, h4⟩
    · omega
    · obtain rfl : q2 = q := by omega
      refine .inr ⟨i, rfl, by omega, ht, fun j hj hf => ?_⟩
      rcases Nat.lt_or_ge j i with h | h
      · right
        rcases h4 j h hf with h5 | h5
        · subst h5
          exact .inl hc
        · rcases h5 with h5 | ⟨h5, h6⟩
          · exact .inl (by omega)
          · exact .inl (by omega)
      · exact .inl (by omega)
  · rcases h with ⟨h1, h2⟩ | ⟨q2, h1, h2, h3, h4⟩
    · omega
    · obtain rfl : q2 = q := by omega
      refine .inr ⟨q2, h1, by omega, h3, fun j hj hf => ?_⟩
      rcases Nat.lt_or_ge j i with h | h
      · exact h4 j h hf
      · obtain rfl : j = i := by omega
        right
        rcases Int.lt_or_eq_of_le (Int.not_lt.1 hc) with h5 | h5
        · exact .inl h5
        · exact .inr ⟨h5, h2⟩
/-- What l2 does behind its loop. -/
def tail2 (k : Nat) (x5 : List Int) (x6 : List Bool) (x8 : Int) (x28 x29 : Int) : Option (List Int) :=
  if x8 < 0 then some x5 else (if 0 ≤ x8 then (if x8 < (x6.length : Int) then (if x5.length < 17592186044416 then (portageref18_Hot.l1 k (x5 ++ [x8]) (x6.set (x8 : Int).toNat true) x28 (wrap64 (x29 + 1)) l) else none) else none) else none)
theorem l2_ev (x5 : List Int) (tk : List Bool) (x28 x29 : Int) (hlen : tk.length = l.length) (hl : l.length ≤ 9223372036854775807) (d : Nat) : ∀ (i : Nat) (b : Int), i ≤ l.length → l.length - i = d → Best (cnt l) tk i b →
    ∃ b', Best (cnt l) tk l.length b' ∧ ∀ r, Ev (fun k => tail2 l k x5 tk b' x28 x29) r → Ev (fun k => portageref18_Hot.l2 k x5 tk b (i : Int) x28 x29 l) r := by
  induction d with
  | zero =>
    intro i b hi hd hb
    obtain rfl : i = l.length := by omega
    refine ⟨b, hb, fun r hr => Ev.step (fun k => ?_) hr⟩
    simp only [portageref18_Hot.l2]
    rw [if_neg (by omega)]
    rfl
  | succ d ih =>
    intro i b hi hd hb
    have hlt : i < l.length := by omega
    obtain ⟨ri, hri⟩ := ref_first l i hlt
    obtain ⟨s1, s2, s3, s4⟩ := best_step (c := cnt l) hb
    by_cases ht : rdOf false tk (i : Int) = true
    · obtain ⟨b', hb', hn⟩ := ih (i + 1) b (by omega) (by omega) (s1 ht)
      refine ⟨b', hb', fun r hr => Ev.step (fun k => ?_) (hn r hr)⟩
      simp only [portageref18_Hot.l2]
      rw [if_pos (by omega), if_pos (by omega), if_pos (by omega), if_pos ht, wrap_nat i _ hlt hl]
    · have hf : rdOf false tk (i : Int) = false := by simpa using ht
      rcases hb with ⟨h1, h2⟩ | ⟨q, h1, h2, h3, h4⟩
      · obtain ⟨b', hb', hn⟩ := ih (i + 1) (i : Int) (by omega) (by omega) (s2 hf h1)
        refine ⟨b', hb', fun r hr => Ev.step (fun k => ?_) (hn r hr)⟩
        simp only [portageref18_Hot.l2]
        rw [if_pos (by omega), if_pos (by omega), if_pos (by omega), if_neg ht, if_pos (by omega), wrap_nat i _ hlt hl]
      · obtain ⟨rq, hrq⟩ := ref_first l q (by omega)
        by_cases hc : cnt l i > cnt l q
        · obtain ⟨b', hb', hn⟩ := ih (i + 1) (i : Int) (by omega) (by omega) (s3 q hf h1 hc)
          refine ⟨b', hb', fun r hr => Ev.step (fun k => ?_) (hn r hr)⟩
          simp only [portageref18_Hot.l2]
          rw [if_pos (by omega), if_pos (by omega), if_pos (by omega), if_neg ht, if_neg (by omega), hri, h1, hrq, wrap_nat i _ hlt hl]
          simp only [Option.bind_some]
          rw [if_pos hc]
        · obtain ⟨b', hb', hn⟩ := ih (i + 1) b (by omega) (by omega) (s4 q hf h1 hc)
          refine ⟨b', hb', fun r hr => Ev.step (fun k => ?_) (hn r hr)⟩
          simp only [portageref18_Hot.l2]
          rw [if_pos (by omega), if_pos (by omega), if_pos (by omega), if_neg ht, if_neg (by omega), hri, h1, hrq, wrap_nat i _ hlt hl]
          simp only [Option.bind_some]
          rw [if_neg hc]
theorem rd_set (tk : List Bool) (q j : Nat) (hq : q < tk.length) : rdOf false (tk.set q true) (j : Int) = if j = q then true else rdOf false tk (j : Int) := by
  unfold rdOf
  simp only [Int.toNat_natCast, List.getD_eq_getElem?_getD, List.getElem?_set]
  by_cases h : j = q
  · subst h
    simp [hq]
  · rw [if_neg (by omega), if_neg h]
/-- What stands behind m rounds. -/
structure Inv (c : Nat → Int) (least : Int) (n m : Nat) (xs : List Int) (tk : List Bool) : Prop where
  len : tk.length = n
  low : ∀ j, j < n → c j < least → rdOf false tk (j : Int) = true
  mem : ∀ x, x ∈ xs ↔ ∃ j : Nat, j < n ∧ x = (j : Int) ∧ least ≤ c j ∧ rdOf false tk (j : Int) = true
  srt : xs.Pairwise (fun x y => HotP.lt (val c least n) x y = true)
  beh : ∀ i j : Nat, i < n → j < n → least ≤ c i → rdOf false tk (i : Int) = true → rdOf false tk (j : Int) = false → Ah c i j
  left : tk.countP (fun b => !b) + m ≤ n
  size : xs.length = m
/-- What comes out. -/
def Fine (c : Nat → Int) (least : Int) (n : Nat) (L : List Int) : Prop := (∀ x, x ∈ L ↔ ∃ j : Nat, j < n ∧ x = (j : Int) ∧ least ≤ c j) ∧ L.Pairwise (fun x y => HotP.lt (val c least n) x y = true)
theorem Inv.fine {c : Nat → Int} {n m : Nat} {xs : List Int} {tk : List Bool} (h : Inv c least n m xs tk) (ha : ∀ j, j < n → rdOf false tk (j : Int) = true) : Fine c least n xs :=
  ⟨fun x => (h.mem x).trans ⟨fun ⟨j, h1, h2, h3, _⟩ => ⟨j, h1, h2, h3⟩, fun ⟨j, h1, h2, h3⟩ => ⟨j, h1, h2, h3, ha j h1⟩⟩, h.srt⟩
theorem Inv.all {c : Nat → Int} {n : Nat} {xs : List Int} {tk : List Bool} (h : Inv c least n n xs tk) : ∀ j, j < n → rdOf false tk (j : Int) = true := by
  intro j hj
  have h0 : tk.countP (fun b => !b) = 0 := by have := h.left; omega
  have h1 := List.countP_eq_zero.1 h0
  have hj2 : j < tk.length := by rw [h.len]; exact hj
  have h2 := h1 tk[j] (List.getElem_mem hj2)
  unfold rdOf
  simpa [List.getD_eq_getElem?_getD, List.getElem?_eq_getElem hj2] using h2
theorem lt_ah {c : Nat → Int} {n : Nat} {i j : Nat} (hi : i < n) (hj : j < n) (h1 : least ≤ c i) (h2 : least ≤ c j) (h : Ah c i j) : HotP.lt (val c least n) (i : Int) (j : Int) = true := by
  rw [lt_iff, val_eq c least i h1 n hi, val_eq c least j h2 n hj]
  rcases h with h | ⟨h, h3⟩
  · exact .inl h
  · exact .inr ⟨h, by omega⟩
theorem Inv.next {c : Nat → Int} {n m : Nat} {xs : List Int} {tk : List Bool} (h : Inv c least n m xs tk) {q : Nat} (hq : q < n) (hf : rdOf false tk (q : Int) = false) (hb : ∀ j, j < n → rdOf false tk (j : Int) = false → j = q ∨ Ah c q j) :
    Inv c least n (m + 1) (xs ++ [(q : Int)]) (tk.set q true) := by
  have hql : q < tk.length := by rw [h.len]; exact hq
  have hlq : least ≤ c q := by
    rcases Int.lt_or_le (c q) least with h1 | h1
    · rw [h.low q hq h1] at hf
      cases hf
    · exact h1
  have rs := fun j => rd_set tk q j hql
  refine ⟨by rw [List.length_set]; exact h.len, fun j hj hc => ?_, fun x => ?_, ?_, fun i j hi hj hli hti htj => ?_, ?_, by rw [List.length_append, h.size]; rfl⟩
  · rw [rs j]
    split
    · rfl
    · exact h.low j hj hc
  · rw [List.mem_append, List.mem_singleton, h.mem x]
    constructor
    · rintro (⟨j, h1, h2, h3, h4⟩ | rfl)
      · exact ⟨j, h1, h2, h3, by rw [rs j]; split; rfl; exact h4⟩
      · exact ⟨q, hq, rfl, hlq, by rw [rs q, if_pos rfl]⟩
    · rintro ⟨j, h1, h2, h3, h4⟩
      rw [rs j] at h4
      by_cases hj : j = q
      · exact .inr (by rw [h2, hj])
      · rw [if_neg hj] at h4
        exact .inl ⟨j, h1, h2, h3, h4⟩
  · rw [List.pairwise_append]
    refine ⟨h.srt, by simp, fun x hx y hy => ?_⟩
    rw [List.mem_singleton.1 hy]
    obtain ⟨i, h1, rfl, h3, h4⟩ := (h.mem x).1 hx
    exact lt_ah least h1 hq h3 hlq (h.beh i q h1 hq h3 h4 hf)
  · rw [rs j] at htj
    split at htj
    · cases htj
    · rename_i hjq
      rw [rs i] at hti
      split at hti
      · rename_i hiq
        subst hiq
        rcases hb j hj htj with h1 | h1
        · exact absurd h1 hjq
        · exact h1
      · exact h.beh i j hi hj hli hti htj
  · rw [List.countP_set hql]
    have hg : tk[q] = false := by
      have : rdOf false tk (q : Int) = tk[q] := by simp [rdOf, List.getD_eq_getElem?_getD, List.getElem?_eq_getElem hql]
      rw [← this]
      exact hf
    have h0 : 0 < tk.countP (fun b => !b) := List.countP_pos_iff.2 ⟨tk[q], List.getElem_mem hql, by rw [hg]; rfl⟩
    have := h.left
    rw [hg]
    simp only [Bool.not_false, Bool.not_true, if_true]
    simp only [Bool.false_eq_true, if_false]
    omega
theorem l1_ev (hl : l.length ≤ 5864062014805) (d : Nat) : ∀ (m : Nat) (xs : List Int) (tk : List Bool), m ≤ l.length → l.length - m = d → Inv (cnt l) least l.length m xs tk →
    ∃ L, Fine (cnt l) least l.length L ∧ Ev (fun k => portageref18_Hot.l1 k xs tk (l.length : Int) (m : Int) l) L := by
  induction d with
  | zero =>
    intro m xs tk hm hd h
    obtain rfl : m = l.length := by omega
    refine ⟨xs, h.fine least (h.all least), Ev.step (fun k => ?_) (Ev.now xs)⟩
    simp only [portageref18_Hot.l1]
    rw [if_neg (by omega)]
  | succ d ih =>
    intro m xs tk hm hd h
    obtain ⟨b, hb, hn⟩ := l2_ev l xs tk (l.length : Int) (m : Int) h.len (by omega) _ 0 (-1) (by omega) rfl (.inl ⟨rfl, fun j hj => absurd hj (Nat.not_lt_zero _)⟩)
    rcases hb with ⟨rfl, ha⟩ | ⟨q, rfl, hq, hf, hbst⟩
    · refine ⟨xs, h.fine least ha, Ev.step (fun k => ?_) (hn xs (Ev.congr (fun k => ?_) (Ev.now xs)))⟩
      · simp only [portageref18_Hot.l1]
        rw [if_pos (by omega)]
        rfl
      · unfold tail2
        rw [if_pos (by omega)]
    · obtain ⟨L, hL, hE⟩ := ih (m + 1) (xs ++ [(q : Int)]) (tk.set q true) (by omega) (by omega) (h.next least hq hf hbst)
      refine ⟨L, hL, Ev.step (fun k => ?_) (hn L (Ev.congr (fun k => ?_) hE))⟩
      · simp only [portageref18_Hot.l1]
        rw [if_pos (by omega)]
        rfl
      · have h1 := h.len
        have h2 := h.size
        unfold tail2
        rw [if_neg (by omega), if_pos (by omega), if_pos (by omega), if_pos (by omega), wrap_nat m _ (show m < l.length by omega) (by omega)]
        rfl
/-- Who is struck from the first: those that were called too seldom. -/
def low (n : Nat) : List Bool := (List.range n).map (fun j => decide (cnt l j < least))
theorem low_succ (n : Nat) : low l least (n + 1) = low l least n ++ [decide (cnt l n < least)] := by simp [low, List.range_succ]
theorem low_len (n : Nat) : (low l least n).length = n := by simp [low]
theorem low_at (n j : Nat) (hj : j < n) : rdOf false (low l least n) (j : Int) = decide (cnt l j < least) := by
  simp [rdOf, low, List.getD_eq_getElem?_getD, hj]
theorem inv_start : Inv (cnt l) least l.length 0 [] (low l least l.length) := by
  refine ⟨low_len .., fun j hj hc => by rw [low_at l least _ j hj]; simpa using hc, fun x => ?_, .nil, fun i j hi hj hli hti htj => ?_, ?_, rfl⟩
  · constructor
    · intro h; cases h
    · rintro ⟨j, h1, h2, h3, h4⟩
      rw [low_at l least _ j h1] at h4
      have := of_decide_eq_true h4
      omega
  · rw [low_at l least _ i hi] at hti
    have := of_decide_eq_true hti
    omega
  · have := List.countP_le_length (p := fun b => !b) (l := low l least l.length)
    rw [low_len] at this
    omega
theorem l0_ev (hl : l.length ≤ 5864062014805) (d : Nat) : ∀ i : Nat, i ≤ l.length → l.length - i = d → ∃ L, Fine (cnt l) least l.length L ∧ Ev (fun k => portageref18_Hot.l0 k least (low l least i) (i : Int) l) L := by
  induction d with
  | zero =>
    intro i hi hd
    obtain rfl : i = l.length := by omega
    obtain ⟨L, hL, hE⟩ := l1_ev l least hl _ 0 [] (low l least l.length) (by omega) rfl (inv_start l least)
    refine ⟨L, hL, Ev.step (fun k => ?_) hE⟩
    simp only [portageref18_Hot.l0]
    rw [if_neg (by omega)]
    rfl
  | succ d ih =>
    intro i hi hd
    have hlt : i < l.length := by omega
    obtain ⟨ri, hri⟩ := ref_first l i hlt
    obtain ⟨L, hL, hE⟩ := ih (i + 1) (by omega) (by omega)
    refine ⟨L, hL, Ev.step (fun k => ?_) hE⟩
    simp only [portageref18_Hot.l0]
    rw [if_pos (by omega), hri, wrap_nat i _ hlt (by omega), low_succ]
    simp only [Option.bind_some]
    rw [if_pos (by rw [low_len]; omega)]
/-- The reference's answer: the map's keys, sorted. -/
theorem ref_hot (hl : l.length ≤ 5864062014805) : ∃ L k, portageref18_Hot.f k l least = some L ∧ L.Perm (intKeys (Cd (cnt l) least l.length)) ∧ L.Pairwise (fun x y => HotP.lt (val (cnt l) least l.length) x y = true) ∧ L.length ≤ l.length := by
  obtain ⟨L, ⟨hm, hs⟩, hE⟩ := l0_ev l least hl _ 0 (by omega) rfl
  obtain ⟨k, hk⟩ := hE.rounds
  have hnd : L.Nodup := hs.imp (fun {a b} h e => by
    subst e
    rw [(swo _).irrefl] at h
    cases h)
  have hp := perm_keys (cnt l) least hnd hm
  refine ⟨L, k, hk, hp, hs, ?_⟩
  have h1 := Cd_size (cnt l) least l.length
  rw [hp.length_eq]
  obtain ⟨es, he, _⟩ := Cd_tidy (cnt l) least l.length
  rw [he] at h1 ⊢
  simpa [intKeys, Maps.size] using h1
end Go.Proofs.Ytjeaojolhdfpeaa.HotR
