/- A family of rows that lie apart: marked, each grown by 64 marks, looked at (the law kit's Apart.. do that). In plain words on the heap, for elements of any kind that lead to nothing. -/
import Derived.Test.YtjeaojolhdfpeaaGrow
namespace Go.Proofs.Ytjeaojolhdfpeaa.Fam
open Go.RowKit Go.Proofs.YtjeaojolhdfpeaaW.PrintWords Go.Proofs.Ytjeaojolhdfpeaa.Grow
set_option linter.unusedVariables false

/-- A slice's head as a triple. -/
abbrev HS := Option Addr × Nat × Nat
def hv (h : HS) : Value := .slice h.1 h.2.1 h.2.2
def kh : Kd HS := Kd.scalar hv (fun _ => rfl)
section
variable {α : Type} {d : Kd α} {e : Nat} {w0 w W w1 : World} {vs : Nat → HS} {n : Nat} {len : Nat → Nat} {mk : Nat → Nat → α} {k lo m : Nat} {u v v1 : Value} {gs : Nat → HS} {xs xs0 : Nat → List α} {r : Option Nat} {et : Nat} {ok : Nat → Prop}

def mks (mk : Nat → Nat → α) (k m : Nat) : List α := (List.range m).map (mk k)
theorem mks_length : (mks mk k m).length = m := by simp [mks]
theorem mks_succ : mks mk k (m + 1) = mks mk k m ++ [mk k m] := by simp [mks, List.range_succ]
theorem mks_take {i : Nat} (h : i ≤ m) : (mks mk k m).take i = mks mk k i := by
  simp only [mks, ← List.map_take]
  rw [List.take_range, Nat.min_eq_left h]
theorem mks_get {i : Nat} (h : i < m) : (mks mk k m)[i]? = some (mk k i) := by simp [mks, h]

def Pre (mk : Nat → Nat → α) (k i : Nat) (l : List α) : Prop := ∀ j, j < i → l[j]? = some (mk k j)
theorem pre_zero (l : List α) : Pre mk k 0 l := fun j hj => absurd hj (Nat.not_lt_zero _)
theorem pre_set {i : Nat} {l : List α} (h : Pre mk k i l) (hi : i < l.length) : Pre mk k (i + 1) (l.set i (mk k i)) := by
  intro j hj
  rw [List.getElem?_set]
  by_cases he : i = j
  · subst he
    simp [hi]
  · rw [if_neg he]
    exact h j (by omega)
theorem pre_full {i : Nat} {l : List α} (h : Pre mk k i l) (hi : l.length = i) : l = mks mk k i := by
  apply List.ext_getElem?
  intro j
  by_cases hj : j < i
  · rw [h j hj, mks_get hj]
  · rw [List.getElem?_eq_none (by omega), List.getElem?_eq_none (by rw [mks_length]; omega)]

/-- The blocks that the rows lie in. -/
def Own (vs : Nat → HS) (n : Nat) (b : Nat) : Prop := ∃ j, j < n ∧ (hv (vs j)).ownBlock = some b
def Tight (v : Value) (b : Nat) : Prop := some b = v.ownBlock
/-- What the rows are at the start. -/
structure Given (d : Kd α) (e : Nat) (w0 w : World) (vs : Nat → HS) (n : Nat) (xs : Nat → List α) : Prop where
  below : Below w0.heap.size w0 w
  rows : ∀ j, j < n → d.R e w w0.heap.size (Tight (hv (vs j))) (hv (vs j)) (xs j)
  apart : ∀ i, i < n → ∀ j, j < n → i ≠ j → ∀ b, (hv (vs i)).ownBlock = some b → (hv (vs j)).ownBlock ≠ some b
theorem Given.lt (h : Given d e w0 w vs n xs) {j b : Nat} (hj : j < n) (hb : (hv (vs j)).ownBlock = some b) : b < w.heap.size := Kd.R_lt (h.rows j hj) b hb

/-- The first pass. -/
structure P1 (d : Kd α) (e : Nat) (w0 w : World) (vs : Nat → HS) (n : Nat) (len : Nat → Nat) (mk : Nat → Nat → α) (W : World) (k : Nat) (xs : Nat → List α) : Prop where
  below : Below w0.heap.size w0 W
  kept : Kept w W (Own vs n)
  rows : ∀ j, j < n → d.R e W w0.heap.size (Tight (hv (vs j))) (hv (vs j)) (xs j)
  size : ∀ j, j < n → (xs j).length = len j
  done : ∀ j, j < k → xs j = mks mk j (len j)
theorem P1.start (h : Given d e w0 w vs n xs) (hl : ∀ j, j < n → (xs j).length = len j) : P1 d e w0 w vs n len mk w 0 xs := ⟨h.below, Kept.refl _ _, h.rows, hl, fun j hj => absurd hj (Nat.not_lt_zero _)⟩
theorem P1.store (h : P1 d e w0 w vs n len mk W k xs) (hG : Given d e w0 w vs n xs0) (hk : k < n) {x' : α} {i : Nat} (hR : d.R e w1 w0.heap.size (Tight (hv (vs k))) (hv (vs k)) ((xs k).set i x')) (hb : Below w0.heap.size w0 w1) (hg : W.grownBy w1 (hv (vs k)).ownBlock) :
    P1 d e w0 w vs n len mk w1 k (fun j => if j = k then (xs k).set i x' else xs j) := by
  refine ⟨hb, Kept.of_grown hg h.kept (fun b hb => .inl ⟨k, hk, hb⟩), ?_, ?_, ?_⟩
  · intro j hj
    by_cases he : j = k
    · subst he
      simp only [if_pos]
      exact hR
    · simp only [if_neg he]
      exact Kd.R_grown (h.rows j hj) hg (fun b hb he2 => hG.apart j hj k hk he b hb.symm he2.symm)
  · intro j hj
    by_cases he : j = k
    · subst he
      simp only [if_pos, List.length_set]
      exact h.size j hj
    · simp only [if_neg he]
      exact h.size j hj
  · intro j hj
    rw [if_neg (by omega)]
    exact h.done j hj
theorem P1.next (h : P1 d e w0 w vs n len mk W k xs) (hk : k < n) (hp : Pre mk k (len k) (xs k)) : P1 d e w0 w vs n len mk W (k + 1) xs := by
  refine ⟨h.below, h.kept, h.rows, h.size, fun j hj => ?_⟩
  by_cases he : j = k
  · subst he
    exact pre_full hp (h.size j hk)
  · exact h.done j (by omega)

/-- The second pass: rows below k have grown, to gs; rows from lo on are still to grow. -/
structure P2 (d : Kd α) (e : Nat) (w0 w : World) (vs : Nat → HS) (n : Nat) (len : Nat → Nat) (mk : Nat → Nat → α) (W : World) (k lo : Nat) (gs : Nat → HS) : Prop where
  below : Below w0.heap.size w0 W
  kept : Kept w W (Own vs n)
  rows : ∀ j, lo ≤ j → j < n → d.R e W w0.heap.size (Tight (hv (vs j))) (hv (vs j)) (mks mk j (len j))
  olds : ∀ j, j < k → Kd.F d W (Tight (hv (vs j))) (vs j).1 (len j) (mks mk j (len j))
  news : ∀ j, j < k → (gs j).2.1 = len j + 64 ∧ Kd.F d W (Tight (hv (gs j))) (gs j).1 (len j + 64) (mks mk j (len j + 64))
  at_ : ∀ j, j < k → (hv (gs j)).ownBlock = (hv (vs j)).ownBlock ∨ ∃ b, (hv (gs j)).ownBlock = some b ∧ w.heap.size ≤ b
  lt : ∀ j, j < k → ∀ b, (hv (gs j)).ownBlock = some b → b < W.heap.size
theorem P2.start (h : P1 d e w0 w vs n len mk W n xs) : P2 d e w0 w vs n len mk W 0 0 gs :=
  ⟨h.below, h.kept, fun j _ hj => by have := h.rows j hj; rwa [h.done j hj] at this, fun j hj => absurd hj (Nat.not_lt_zero _), fun j hj => absurd hj (Nat.not_lt_zero _), fun j hj => absurd hj (Nat.not_lt_zero _), fun j hj => absurd hj (Nat.not_lt_zero _)⟩
/-- One block changed, none of the family's. -/
theorem P2.grown (h : P2 d e w0 w vs n len mk W k lo gs) (hb : Below w0.heap.size w0 w1) (hg : W.grownBy w1 r) (hr : ∀ b, r = some b → Own vs n b ∨ w.heap.size ≤ b) (hv1 : ∀ j, lo ≤ j ∨ j < k → j < n → ∀ b, (hv (vs j)).ownBlock = some b → r ≠ some b)
    (hv2 : ∀ j, j < k → ∀ b, (hv (gs j)).ownBlock = some b → r ≠ some b) (hk : k ≤ n) : P2 d e w0 w vs n len mk w1 k lo gs :=
  ⟨hb, Kept.of_grown hg h.kept hr, fun j h1 h2 => Kd.R_grown (h.rows j h1 h2) hg (fun b hb he => hv1 j (.inl h1) h2 b hb.symm he.symm),
    fun j hj => Kd.F_grown (h.olds j hj) hg (fun b hb he => hv1 j (.inr hj) (by omega) b hb.symm he.symm),
    fun j hj => ⟨(h.news j hj).1, Kd.F_grown (h.news j hj).2 hg (fun b hb he => hv2 j hj b hb.symm he.symm)⟩, h.at_, fun j hj b hb => Nat.lt_of_lt_of_le (h.lt j hj b hb) hg.size⟩

/-- The list of what has grown. -/
def Outer (et : Nat) (w0 w W : World) (k : Nat) (gs : Nat → HS) (u : Value) : Prop := kh.R et W w0.heap.size (fun b => w.heap.size ≤ b ∧ ∀ j, j < k → (hv (gs j)).ownBlock ≠ some b) u ((List.range k).map gs)
theorem Outer.start : Outer et w0 w W 0 gs (.slice none 0 0) := Kd.R_nil _ _ _ _ _
/-- While row k grows: v is what it has come to, m marks behind. -/
structure P3 (d : Kd α) (e et : Nat) (w0 w : World) (vs : Nat → HS) (n : Nat) (len : Nat → Nat) (mk : Nat → Nat → α) (W : World) (k m : Nat) (gs : Nat → HS) (u v : Value) : Prop where
  fam : P2 d e w0 w vs n len mk W k (k + 1) gs
  outer : Outer et w0 w W k gs u
  row : d.R e W w0.heap.size (Tight v) v (mks mk k (len k + m))
  cur : v.ownBlock = (hv (vs k)).ownBlock ∨ (∃ b, v.ownBlock = some b ∧ w.heap.size ≤ b ∧ (∀ j, j < k → (hv (gs j)).ownBlock ≠ some b) ∧ u.ownBlock ≠ some b) ∧ Kd.F d W (Tight (hv (vs k))) (vs k).1 (len k) (mks mk k (len k))
theorem P3.start (h : P2 d e w0 w vs n len mk W k k gs) (ho : Outer et w0 w W k gs u) (hk : k < n) : P3 d e et w0 w vs n len mk W k 0 gs u (hv (vs k)) :=
  ⟨⟨h.below, h.kept, fun j h1 h2 => h.rows j (by omega) h2, h.olds, h.news, h.at_, h.lt⟩, ho, h.rows k (Nat.le_refl _) hk, .inl rfl⟩
theorem P3.below (h : P3 d e et w0 w vs n len mk W k m gs u v) (hb : Below W.heap.size W w1) (hs : w0.heap.size ≤ W.heap.size) (hk : k ≤ n) : P3 d e et w0 w vs n len mk w1 k m gs u v := by
  have hg : W.grownBy w1 none := ⟨hb.os, hb.tape, hb.output, hb.size, fun k hk _ => hb.block k hk⟩
  refine ⟨h.fam.grown (below_then h.fam.below hs hb) hg (fun b hb => by cases hb) (fun _ _ _ _ _ he => by cases he) (fun _ _ _ _ he => by cases he) hk, Kd.R_below h.outer hb, Kd.R_below h.row hb, ?_⟩
  rcases h.cur with h1 | ⟨h1, h2⟩
  · exact .inl h1
  · exact .inr ⟨h1, Kd.F_below h2 hb⟩
/-- The row's old part, where it has not moved. -/
theorem old_part (hE : d.E = []) {x : HS} {l : List α} (hv0 : v.ownBlock = (hv x).ownBlock) (hx : d.R e w w0.heap.size (Tight (hv x)) (hv x) l) (hlx : l.length = len k) (h : d.R e W w0.heap.size (Tight v) v (mks mk k (len k + m))) (hsz : 0 < d.sz) : Kd.F d W (Tight (hv x)) x.1 (len k) (mks mk k (len k)) := by
  obtain ⟨A, n, c⟩ := x
  intro W' hW
  have hxr := Kd.R_reads' hx
  rcases A with _ | ad
  · rcases Nat.eq_zero_or_pos (len k) with h0 | h0
    · rw [h0]
      exact Kd.C_nil d W'
    · obtain ⟨g, cap, he, _⟩ := Kd.R_form hx (by omega)
      cases he
  · obtain ⟨g, hg⟩ := Kd.R_head hx
    subst hg
    obtain ⟨Av, cv, hvv⟩ := Kd.R_slice h
    subst hvv
    rcases Av with _ | av
    · simp [hv, Value.ownBlock] at hv0
    · obtain ⟨g2, hg2⟩ := Kd.R_head h
      subst hg2
      have hgg : g2 = g := by simpa [hv, Value.ownBlock] using hv0
      subst hgg
      have hR := Kd.R_step h (w1 := W') (fun b hb hlt => hW b (by simp only [Tight] at hb ⊢; rw [hb]; exact hv0) hlt)
      have hC := (Kd.R_reads' hR).2.2
      have h2 := Kd.C_take (m := len k) hC (by rw [mks_length]; omega)
      rw [mks_take (by omega), mks_length] at h2
      exact h2
theorem P3.grow (hE : d.E = []) (hsz : 0 < d.sz) (hG : Given d e w0 w vs n xs) (hl : ∀ j, j < n → (xs j).length = len j) (hk : k < n) (h : P3 d e et w0 w vs n len mk W k m gs u v) (hR : d.R e w1 w0.heap.size ok v1 (mks mk k (len k + m) ++ [mk k (len k + m)])) (hb : Below w0.heap.size w0 w1)
    (hg : W.grownBy w1 v.ownBlock) (hat : v1.ownBlock = v.ownBlock ∨ (∃ b, v1.ownBlock = some b ∧ W.heap.size ≤ b) ∧ W.grownBy w1 none) : P3 d e et w0 w vs n len mk w1 k (m + 1) gs u v1 := by
  have hrow : d.R e w1 w0.heap.size (Tight v1) v1 (mks mk k (len k + (m + 1))) := by
    rw [← mks_succ] at hR
    exact Kd.R_reok hE hR (fun b hb => hb.symm)
  have hW : w.heap.size ≤ W.heap.size := h.fam.kept.1
  have hult : ∀ b, u.ownBlock = some b → b < W.heap.size := Kd.R_lt h.outer
  have huge : ∀ b, u.ownBlock = some b → w.heap.size ≤ b := fun b hb => (h.outer.1 b hb).1
  -- the family, whichever block was written
  have hfam : P2 d e w0 w vs n len mk w1 k (k + 1) gs ∧ Outer et w0 w w1 k gs u := by
    have hvb : ∀ b, v.ownBlock = some b → (Own vs n b ∨ w.heap.size ≤ b) ∧ (∀ j, k + 1 ≤ j ∨ j < k → j < n → (hv (vs j)).ownBlock ≠ some b) ∧ (∀ j, j < k → (hv (gs j)).ownBlock ≠ some b) ∧ u.ownBlock ≠ some b := by
      intro b hvb
      rcases h.cur with h1 | ⟨⟨b', h1, h2, h3, h4⟩, _⟩
      · have hkb : (hv (vs k)).ownBlock = some b := h1 ▸ hvb
        have hlt := hG.lt hk hkb
        refine ⟨.inl ⟨k, hk, hkb⟩, fun j hj hjn he => hG.apart k hk j hjn (by omega) b hkb he, fun j hj he => ?_, fun he => by have := huge b he; omega⟩
        rcases h.fam.at_ j hj with ha | ⟨b2, ha, hle⟩
        · exact hG.apart k hk j (by omega) (by omega) b hkb (ha ▸ he)
        · rw [ha] at he
          injection he with he
          omega
      · have : b' = b := by rw [h1] at hvb; injection hvb
        subst this
        exact ⟨.inr h2, fun j _ hjn he => by have := hG.lt hjn he; omega, h3, h4⟩
    refine ⟨h.fam.grown hb hg (fun b hb => (hvb b hb).1) (fun j hj hjn b hb he => (hvb b he).2.1 j hj hjn hb) (fun j hj b hb he => (hvb b he).2.2.1 j hj hb) (by omega), ?_⟩
    refine Kd.R_reok rfl (Kd.R_grown (Kd.R_reok (ok := fun b => u.ownBlock = some b) rfl h.outer (fun b hb => hb)) hg (fun b hb he => (hvb b he.symm).2.2.2 hb)) (fun b hb => h.outer.1 b hb)
  refine ⟨hfam.1, hfam.2, hrow, ?_⟩
  rcases hat with hat | ⟨⟨b, hb1, hb2⟩, hg0⟩
  · rcases h.cur with h1 | ⟨⟨b', h1, h2, h3, h4⟩, hF⟩
    · exact .inl (hat.trans h1)
    · refine .inr ⟨⟨b', hat.trans h1, h2, h3, h4⟩, Kd.F_grown hF hg (fun c hc he => ?_)⟩
      rw [h1] at he
      injection he with he
      have := hG.lt hk hc.symm
      omega
  · refine .inr ⟨⟨b, hb1, by omega, fun j hj he => by have := h.fam.lt j hj b he; omega, fun he => by have := hult b he; omega⟩, ?_⟩
    rcases h.cur with h1 | ⟨_, hF⟩
    · exact Kd.F_grown (old_part hE h1 (hG.rows k hk) (hl k hk) h.row hsz) hg0 (fun _ _ => by simp)
    · exact Kd.F_grown hF hg0 (fun _ _ => by simp)
/-- Row k has grown; the list of what has grown took it. -/
theorem P3.done (hE : d.E = []) (hsz : 0 < d.sz) (hG : Given d e w0 w vs n xs) (hl : ∀ j, j < n → (xs j).length = len j) (hk : k < n) {x : HS} {u1 : Value} (h : P3 d e et w0 w vs n len mk W k 64 gs u (hv x)) (het : e ≠ et) (hR : kh.R et w1 w0.heap.size ok u1 ((List.range k).map gs ++ [x])) (hb : Below w0.heap.size w0 w1)
    (hg : W.grownBy w1 u.ownBlock) (hat : u1.ownBlock = u.ownBlock ∨ ∃ b, u1.ownBlock = some b ∧ W.heap.size ≤ b) :
    P2 d e w0 w vs n len mk w1 (k + 1) (k + 1) (fun j => if j = k then x else gs j) ∧ Outer et w0 w w1 (k + 1) (fun j => if j = k then x else gs j) u1 := by
  have hW : w.heap.size ≤ W.heap.size := h.fam.kept.1
  have huge : ∀ b, u.ownBlock = some b → w.heap.size ≤ b := fun b hb => (h.outer.1 b hb).1
  have hug : ∀ b, u.ownBlock = some b → ∀ j, j < k → (hv (gs j)).ownBlock ≠ some b := fun b hb => (h.outer.1 b hb).2
  have hux : ∀ b, u.ownBlock = some b → (hv x).ownBlock ≠ some b := by
    intro b hb hx
    obtain ⟨c1, hc1⟩ := Kd.R_typed h.outer b hb
    obtain ⟨c2, hc2⟩ := Kd.R_typed h.row b hx
    rw [hc1] at hc2
    injection hc2 with hc2
    injection hc2 with _ h2
    exact het h2.symm
  have huv : ∀ b, u.ownBlock = some b → ∀ j, j < n → (hv (vs j)).ownBlock ≠ some b := fun b hb j hj he => by
    have h1 := huge b hb
    have h2 := hG.lt hj he
    omega
  have hF := h.fam.grown hb hg (fun b hb => .inr (huge b hb)) (fun j _ hjn b hb he => huv b he j hjn hb) (fun j hj b hb he => hug b he j hj hb) (by omega)
  have hold : Kd.F d W (Tight (hv (vs k))) (vs k).1 (len k) (mks mk k (len k)) := by
    rcases h.cur with h1 | ⟨_, h2⟩
    · exact old_part hE h1 (hG.rows k hk) (hl k hk) h.row hsz
    · exact h2
  have hxn : x.2.1 = len k + 64 := by
    have := (Kd.R_reads' (A := x.1) (n := x.2.1) (c := x.2.2) h.row).1
    rw [mks_length] at this
    exact this
  have hnew : Kd.F d W (Tight (hv x)) x.1 (len k + 64) (mks mk k (len k + 64)) := by
    have := Kd.R_F (A := x.1) (n := x.2.1) (cc := x.2.2) h.row
    rwa [hxn] at this
  constructor
  · refine ⟨hb, hF.kept, hF.rows, fun j hj => ?_, fun j hj => ?_, fun j hj => ?_, fun j hj b hbj => ?_⟩
    · by_cases he : j = k
      · subst he
        exact Kd.F_grown hold hg (fun b hb he => huv b he.symm j hk hb.symm)
      · exact hF.olds j (by omega)
    · by_cases he : j = k
      · subst he
        simp only [if_pos]
        exact ⟨hxn, Kd.F_grown hnew hg (fun b hb he => hux b he.symm hb.symm)⟩
      · simp only [if_neg he]
        exact hF.news j (by omega)
    · by_cases he : j = k
      · subst he
        simp only [if_pos]
        rcases h.cur with h1 | ⟨⟨b, h1, h2, _⟩, _⟩
        · exact .inl h1
        · exact .inr ⟨b, h1, h2⟩
      · simp only [if_neg he]
        exact hF.at_ j (by omega)
    · by_cases he : j = k
      · subst he
        simp only [if_pos] at hbj
        exact Nat.lt_of_lt_of_le (Kd.R_lt h.row b hbj) hg.size
      · simp only [if_neg he] at hbj
        exact hF.lt j (by omega) b hbj
  · have hm : (List.range (k + 1)).map (fun j => if j = k then x else gs j) = (List.range k).map gs ++ [x] := by
      rw [List.range_succ, List.map_append, List.map_cons, List.map_nil, if_pos rfl]
      congr 1
      apply List.map_congr_left
      intro j hj
      rw [if_neg (by have := List.mem_range.1 hj; omega)]
    show kh.R _ _ _ _ _ _
    rw [hm]
    refine Kd.R_reok rfl hR (fun b hb1 => ?_)
    rcases hat with hat | ⟨b2, hb2, hle⟩
    · rw [hat] at hb1
      refine ⟨huge b hb1, fun j hj he => ?_⟩
      simp only [] at he
      by_cases hjk : j = k
      · rw [if_pos hjk] at he
        exact hux b hb1 he
      · rw [if_neg hjk] at he
        exact hug b hb1 j (by omega) he
    · rw [hb2] at hb1
      injection hb1 with hb1
      subst hb1
      refine ⟨by omega, fun j hj he => ?_⟩
      simp only [] at he
      by_cases hjk : j = k
      · rw [if_pos hjk] at he
        have := Kd.R_lt h.row b2 he
        omega
      · rw [if_neg hjk] at he
        have := h.fam.lt j (by omega) b2 he
        omega
end
end Go.Proofs.Ytjeaojolhdfpeaa.Fam
