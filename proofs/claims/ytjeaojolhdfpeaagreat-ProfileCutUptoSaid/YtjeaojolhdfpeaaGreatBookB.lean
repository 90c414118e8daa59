/- Profile's book on the heap: what it holds, what leaves it as it is, how it grows. No program is walked. -/
import Derived.Test.YtjeaojolhdfpeaaGreatBookS
import Derived.Test.YtjeaojolhdfpeaaGreatPProfileCutx2
import Derived.Test.YtjeaojolhdfpeaaGreatCutT
import Derived.Test.YtjeaojolhdfpeaaGreatPProfileCutx4
import Derived.Test.YtjeaojolhdfpeaaGreatPProfileCutx5
import Derived.Test.YtjeaojolhdfpeaaGreatCutK
namespace Go.Proofs.YtjeaojolhdfpeaaGreat.BookB
open Go.RowKit Go.Maps Go.Proofs.YtjeaojolhdfpeaaGreatW.PrintWords Go.Proofs.YtjeaojolhdfpeaaGreatW.PrintLast Go.Proofs.YtjeaojolhdfpeaaGreatW.PrintMore
open Go.Proofs.YtjeaojolhdfpeaaGreat.PProfileCut Go.Proofs.YtjeaojolhdfpeaaGreat.BookK
set_option linter.unusedVariables false
set_option linter.unusedSimpArgs false

/-! ### Rows of spots, plainly -/
def rw_ (F : List (List S51)) (i : Nat) : List S51 := F.getD i []
def gt (F : List (List S51)) (i j : Nat) : S51 := (rw_ F i).getD j z51
def InR (F : List (List S51)) (i j : Nat) : Prop := i < F.length ∧ j < (rw_ F i).length
def st (F : List (List S51)) (i j : Nat) (s : S51) : List (List S51) := F.set i ((rw_ F i).set j s)
section
variable {F G : List (List S51)} {i j a b : Nat} {s : S51}
theorem rw_st (h : i < F.length) : rw_ (st F i j s) a = if a = i then (rw_ F i).set j s else rw_ F a := by
  unfold rw_ st
  by_cases e : a = i
  · subst e
    simp [List.getD_eq_getElem?_getD, h, rw_]
  · rw [if_neg e]
    simp [List.getD_eq_getElem?_getD, List.getElem?_set, Ne.symm e]
theorem gt_st (h : InR F i j) : gt (st F i j s) a b = if a = i ∧ b = j then s else gt F a b := by
  unfold gt
  rw [rw_st h.1]
  by_cases e : a = i
  · subst e
    rw [if_pos rfl]
    by_cases e2 : b = j
    · subst e2
      rw [if_pos ⟨rfl, rfl⟩]
      simp [List.getD_eq_getElem?_getD, h.2]
    · rw [if_neg (fun h => e2 h.2)]
      simp [List.getD_eq_getElem?_getD, List.getElem?_set, Ne.symm e2]
  · rw [if_neg e, if_neg (fun h => e h.1)]
theorem len_st : (st F i j s).length = F.length := by simp [st]
theorem lens_st : (st F i j s).map (fun r => (r.length : Int)) = F.map (fun r => (r.length : Int)) := by
  apply List.ext_getElem?
  intro k
  simp only [st, List.getElem?_map, List.getElem?_set]
  by_cases e : i = k
  · subst e
    rw [if_pos rfl]
    by_cases h : i < F.length
    · simp [h, rw_, List.getD_eq_getElem?_getD]
    · simp [h]
  · rw [if_neg e]
theorem inR_st (h : i < F.length) : InR (st F i j s) a b ↔ InR F a b := by
  unfold InR
  rw [len_st, rw_st h]
  by_cases e : a = i
  · subst e
    simp
  · rw [if_neg e]
theorem rows_ext (hl : F.length = G.length) (hr : ∀ i, i < F.length → (rw_ F i).length = (rw_ G i).length) (hg : ∀ i j, InR F i j → gt F i j = gt G i j) : F = G := by
  apply List.ext_getElem hl
  intro i h1 h2
  have e1 : rw_ F i = F[i] := by simp [rw_, List.getD_eq_getElem?_getD, h1]
  have e2 : rw_ G i = G[i] := by simp [rw_, List.getD_eq_getElem?_getD, h2]
  have h3 := hr i h1
  rw [e1, e2] at h3
  apply List.ext_getElem h3
  intro j h4 h5
  have h6 := hg i j ⟨h1, by rw [e1]; exact h4⟩
  unfold gt at h6
  rw [e1, e2] at h6
  simpa [List.getD_eq_getElem?_getD, h4, h5] using h6
theorem rw_snoc {r : List S51} : rw_ (F ++ [r]) a = if a = F.length then r else rw_ F a := by
  unfold rw_
  simp only [List.getD_eq_getElem?_getD]
  by_cases e : a = F.length
  · subst e
    simp
  · rw [if_neg e]
    rcases Nat.lt_or_ge a F.length with h | h
    · rw [List.getElem?_append_left h]
    · rw [List.getElem?_eq_none (by simp; omega), List.getElem?_eq_none h]
end

/-! ### What may change, and what not -/
structure Turn (W W' : World) (S : Nat → Prop) : Prop where
  os : W'.os = W.os
  tape : W'.tape = W.tape
  output : W'.output = W.output
  kept : Kept W W' S
section
variable {W W1 W2 : World} {S T U : Nat → Prop}
theorem Turn.refl (W : World) (S : Nat → Prop) : Turn W W S := ⟨rfl, rfl, rfl, Kept.refl _ _⟩
theorem Turn.of_below (h : Below W.heap.size W W1) (S : Nat → Prop) : Turn W W1 S := ⟨h.os, h.tape, h.output, Kept.of_below h S⟩
theorem Turn.of_grown {r : Option Nat} (h : W.grownBy W1 r) (hr : ∀ k, r = some k → S k) : Turn W W1 S :=
  ⟨h.os, h.tape, h.output, h.size, fun i hi hn => h.block i hi (fun e => hn (hr i e.symm))⟩
theorem Turn.then_ (h : Turn W W1 S) (k : Turn W1 W2 T) (ht : ∀ k, T k → S k ∨ W.heap.size ≤ k) : Turn W W2 S :=
  ⟨k.os.trans h.os, k.tape.trans h.tape, k.output.trans h.output, h.kept.then_ k.kept ht⟩
theorem Turn.mono (h : Turn W W1 S) (hs : ∀ k, S k → T k) : Turn W W1 T := ⟨h.os, h.tape, h.output, h.kept.mono hs⟩
theorem Turn.below {B : Nat} (h : Turn W W1 S) (hs : ∀ k, S k → B ≤ k) (hB : B ≤ W.heap.size) : Below B W W1 :=
  ⟨h.os, h.tape, h.output, h.kept.1, fun k hk => h.kept.2 k (by omega) (fun hS => by have := hs k hS; omega)⟩
theorem Turn.size (h : Turn W W1 S) : W.heap.size ≤ W1.heap.size := h.kept.1
theorem Turn.heap (h : Turn W W1 T) {k : Nat} {o : Obj} (hk : W.heap[k]? = some o) (hn : ¬ T k) : W1.heap[k]? = some o := (h.kept.2 k (blk_lt hk) hn).trans hk
theorem grown_set (w : World) (a : Addr) (u : Value) : w.grownBy (w.setCell a u) (some a.block) :=
  ⟨rfl, rfl, rfl, by simp [World.setCell], fun k hk hne => Below.heap_setCell w a u k (fun e => hne (by rw [e]))⟩
theorem Turn.set (w : World) (a : Addr) (u : Value) (hS : S a.block) : Turn w (w.setCell a u) S := Turn.of_grown (grown_set w a u) (fun k e => by cases e; exact hS)
theorem Turn.alloc (w : World) (o : Obj) (S : Nat → Prop) : Turn w (w.alloc o) S := Turn.of_below (below_alloc (Below.refl _ _) o) S
end

/-! ### The book -/
/-- A spot's cells. -/
def spc (s : S51) : Array Value := #[.int .i64 s.f0, .int .u16 s.f1, .int .u16 s.f2, .int .i64 s.f3]
structure BkAt (W : World) (S : Nat → Prop) (bp mp : Nat) (A : Option Addr) (c : Nat) (D : DataW Unit) (F : List (List S51)) (N : Nat) : Prop where
  hb : W.heap[bp]? = some (.cells #[.slice A F.length c, .map (some mp)] 79 (0, 0))
  hS : S bp
  mS : S mp
  len : F.length ≤ 1099511627776 ∧ ∀ i, (rw_ F i).length ≤ 1099511627776
  sizes : Kd.R (Kd.int .i64) 3 W 0 S (.slice A F.length c) (F.map fun r => (r.length : Int))
  own : W.ownsMap Tryz.prog 90 rp mp N D
  keys : ∀ kl, KeysOf Tryz.prog 90 kl → Maps.has D kl = true → ∃ i j : Nat, kl = kp i j ∧ InR F i j
  spots : ∀ i j, InR F i j → (D.atKey (kp i j) (pz (-1)) = pz (-1) ∧ Maps.has D (kp i j) = false ∧ gt F i j = z51) ∨
    (∃ q : Nat, Maps.has D (kp i j) = true ∧ (∀ z, D.atKey (kp i j) z = pz q) ∧ S q ∧ W.heap[q]? = some (.cells (spc (gt F i j)) 87 (0, 0)))
  apart : ∀ i j i' j' (q : Nat), InR F i j → InR F i' j' → D.atKey (kp i j) (pz (-1)) = pz q → D.atKey (kp i' j') (pz (-1)) = pz q → i = i' ∧ j = j'
/-- A book at bp over the rows F, in the blocks S. -/
def Bk (W : World) (S : Nat → Prop) (bp : Nat) (F : List (List S51)) (N : Nat) : Prop := ∃ mp A c D, BkAt W S bp mp A c D F N
section
variable {W W1 : World} {S T : Nat → Prop} {bp mp : Nat} {A : Option Addr} {c : Nat} {D : DataW Unit} {F : List (List S51)} {N : Nat}
theorem BkAt.own_keep {D : DataW Unit} (h : W.ownsMap Tryz.prog 90 rp mp N D) (ht : Turn W W1 T) (hn : ¬ T mp) : W1.ownsMap Tryz.prog 90 rp mp N D := by
  obtain ⟨es, clock, hb, Ft, hs, hD⟩ := h
  exact ⟨es, clock, ht.heap hb hn, Ft, hs, hD⟩
theorem BkAt.turn (h : BkAt W S bp mp A c D F N) (ht : Turn W W1 T) (hn : ∀ k, S k → ¬ T k) : BkAt W1 S bp mp A c D F N :=
  ⟨ht.heap h.hb (hn _ h.hS), h.hS, h.mS, h.len, Kd.R_kept h.sizes ht.kept hn, BkAt.own_keep h.own ht (hn _ h.mS), h.keys,
    fun i j hij => (h.spots i j hij).imp id (fun ⟨q, h1, h2, h3, h4⟩ => ⟨q, h1, h2, h3, ht.heap h4 (hn _ h3)⟩), h.apart⟩
theorem Bk.turn (h : Bk W S bp F N) (ht : Turn W W1 T) (hn : ∀ k, S k → ¬ T k) : Bk W1 S bp F N := by
  obtain ⟨mp, A, c, D, h⟩ := h
  exact ⟨mp, A, c, D, h.turn ht hn⟩
theorem BkAt.mono (h : BkAt W S bp mp A c D F N) (hs : ∀ k, S k → T k) : BkAt W T bp mp A c D F N :=
  ⟨h.hb, hs _ h.hS, hs _ h.mS, h.len, Kd.R_mono h.sizes hs, h.own, h.keys, fun i j hij => (h.spots i j hij).imp id (fun ⟨q, h1, h2, h3, h4⟩ => ⟨q, h1, h2, hs _ h3, h4⟩), h.apart⟩
theorem BkAt.raise (h : BkAt W S bp mp A c D F N) {M : Nat} (hM : N ≤ M) : BkAt W S bp mp A c D F M := ⟨h.hb, h.hS, h.mS, h.len, h.sizes, h.own.mono hM, h.keys, h.spots, h.apart⟩
/-- All that it leads to is there. -/
theorem BkAt.shrink (h : BkAt W S bp mp A c D F N) : BkAt W (fun k => S k ∧ k < W.heap.size) bp mp A c D F N :=
  ⟨h.hb, ⟨h.hS, blk_lt h.hb⟩, ⟨h.mS, h.own.lt⟩, h.len, Kd.R_mono (Kd.R_bound h.sizes) (fun k hk => ⟨hk.1, hk.2.2.1⟩), h.own, h.keys, fun i j hij => (h.spots i j hij).imp id (fun ⟨q, h1, h2, h3, h4⟩ => ⟨q, h1, h2, ⟨h3, blk_lt h4⟩, h4⟩), h.apart⟩
theorem i64_nat {n : Nat} (h : n ≤ 1099511627776) : I64 (n : Int) := WalkArith.wf_i64 (by omega)
theorem BkAt.i64 (h : BkAt W S bp mp A c D F N) {i j : Nat} (hij : InR F i j) : I64 (i : Int) ∧ I64 (j : Int) :=
  ⟨i64_nat (Nat.le_trans (Nat.le_of_lt hij.1) h.len.1), i64_nat (Nat.le_trans (Nat.le_of_lt hij.2) (h.len.2 i))⟩
theorem BkAt.inj (h : BkAt W S bp mp A c D F N) {i j i' j' : Nat} (hij : InR F i j) (hij' : InR F i' j') (e : kp i j = kp i' j') : i = i' ∧ j = j' := by
  have h1 := kp_inj (h.i64 hij).1 (h.i64 hij).2 (h.i64 hij').1 (h.i64 hij').2 e
  exact ⟨by omega, by omega⟩
theorem BkAt.fresh (h : BkAt W S bp mp A c D F N) {i j : Nat} (hi : F.length ≤ i) (h1 : i ≤ 1099511627776) (h2 : j ≤ 1099511627776) : Maps.has D (kp i j) = false := by
  cases hh : Maps.has D (kp i j) with
  | false => rfl
  | true =>
    obtain ⟨a, b, e1, e2⟩ := h.keys _ ⟨_, keyOf_mk _ _ (i64_nat h1) (i64_nat h2)⟩ hh
    have h3 := kp_inj (i64_nat h1) (i64_nat h2) (h.i64 e2).1 (h.i64 e2).2 e1
    have := e2.1
    omega
/-- A new book over no rows. -/
theorem BkAt.start {w : World} (h1 : W.heap[bp]? = some (.cells #[.slice none 0 0, .map (some mp)] 79 (0, 0))) (h2 : W.ownsMap Tryz.prog 90 rp mp 0 (.map [])) (hb : S bp) (hm : S mp) : BkAt W S bp mp none 0 (.map []) [] 0 :=
  ⟨h1, hb, hm, ⟨by simp, fun i => by simp [rw_]⟩, Kd.R_nil _ _ _ _ _, h2, fun kl _ hk => by rw [has_eq] at hk; simp at hk, fun i j hij => absurd hij.1 (Nat.not_lt_zero _), fun i j i' j' q hij => absurd hij.1 (Nat.not_lt_zero _)⟩
/-- A spot's block is written. -/
theorem BkAt.upd (h : BkAt W S bp mp A c D F N) {i j q : Nat} (hij : InR F i j) (hq : ∀ z, D.atKey (kp i j) z = pz q) {s : S51} (ht : Turn W W1 (fun k => k = q)) (hb : W1.heap[q]? = some (.cells (spc s) 87 (0, 0))) : BkAt W1 S bp mp A c D (st F i j s) N := by
  have hsp := h.spots i j hij
  obtain ⟨q0, p1, p2, p3, p4⟩ : ∃ q : Nat, Maps.has D (kp i j) = true ∧ (∀ z, D.atKey (kp i j) z = pz q) ∧ S q ∧ W.heap[q]? = some (.cells (spc (gt F i j)) 87 (0, 0)) := by
    rcases hsp with ⟨h1, _⟩ | h1
    · have := (hq (pz (-1))).symm.trans h1
      injection this with this
      injection this with _ this
      omega
    · exact h1
  obtain rfl : q0 = q := by
    have := (p2 (pz 0)).symm.trans (hq (pz 0))
    injection this with this
    injection this with _ this
    omega
  have ne1 : bp ≠ q0 := fun e => by
    subst e
    rw [h.hb] at p4
    cases p4
  have ne2 : mp ≠ q0 := fun e => by
    subst e
    obtain ⟨es, clock, hb, _⟩ := h.own
    rw [hb] at p4
    cases p4
  refine ⟨by rw [len_st]; exact ht.heap h.hb ne1, h.hS, h.mS, ⟨by rw [len_st]; exact h.len.1, fun a => ?_⟩, ?_, BkAt.own_keep h.own ht ne2, ?_, ?_, ?_⟩
  · rw [rw_st hij.1]
    split
    · rw [List.length_set]
      exact h.len.2 i
    · exact h.len.2 a
  · rw [lens_st, len_st]
    have hR := Kd.R_types h.sizes p4 (by decide)
    exact Kd.R_mono (Kd.R_kept hR ht.kept (fun k hk e => hk.2 e)) (fun k hk => hk.1)
  · intro kl hk hh
    obtain ⟨a, b, e1, e2⟩ := h.keys kl hk hh
    exact ⟨a, b, e1, (inR_st hij.1).2 e2⟩
  · intro a b hab
    rw [inR_st hij.1] at hab
    rw [gt_st hij]
    by_cases e : a = i ∧ b = j
    · obtain ⟨rfl, rfl⟩ := e
      rw [if_pos ⟨rfl, rfl⟩]
      exact .inr ⟨q0, p1, p2, p3, hb⟩
    · rw [if_neg e]
      rcases h.spots a b hab with h1 | ⟨q2, h1, h2, h3, h4⟩
      · exact .inl h1
      · refine .inr ⟨q2, h1, h2, h3, ht.heap h4 (fun e2 => ?_)⟩
        subst e2
        exact e (h.apart a b i j q2 hab hij (h2 _) (p2 _))
  · intro a b a' b' q2 h1 h2
    rw [inR_st hij.1] at h1 h2
    exact h.apart a b a' b' q2 h1 h2
/-- A new spot is put. -/
theorem BkAt.put (h : BkAt W S bp mp A c D F N) {i j q : Nat} (hij : InR F i j) (ha : Maps.has D (kp i j) = false) {s : S51} (hq : W.heap[q]? = some (.cells (spc s) 87 (0, 0))) (hfresh : ¬ S q)
    (ho : W1.ownsMap Tryz.prog 90 rp mp (N + 1) (D.put (kp i j) (pz q))) (hg : W.grownBy W1 (some mp)) : BkAt W1 (fun k => S k ∨ k = q) bp mp A c (D.put (kp i j) (pz q)) (st F i j s) (N + 1) := by
  have ht : Turn W W1 (fun k => k = mp) := Turn.of_grown hg (fun k e => by cases e; rfl)
  obtain ⟨es, clock, hmb, _⟩ := h.own
  have ne1 : ¬ bp = mp := fun e => by
    subst e
    rw [h.hb] at hmb
    cases hmb
  have ne2 : ¬ q = mp := fun e => by
    subst e
    rw [hq] at hmb
    cases hmb
  have hD : IsMap D := by
    obtain ⟨es, _, _, _, _, hD⟩ := h.own
    exact ⟨_, hD⟩
  have hI := h.i64 hij
  have hkey : WideAt.IsKeyLit (kp i j) := by simp [WideAt.IsKeyLit, kp]
  have neK : ∀ {a b : Nat}, InR F a b → ¬ (a = i ∧ b = j) → kp a b ≠ kp i j := fun hab e e2 => e (h.inj hab hij e2)
  refine ⟨by rw [len_st]; exact ht.heap h.hb ne1, .inl h.hS, .inl h.mS, ⟨by rw [len_st]; exact h.len.1, fun a => ?_⟩, ?_, ho, ?_, ?_, ?_⟩
  · rw [rw_st hij.1]
    split
    · rw [List.length_set]
      exact h.len.2 i
    · exact h.len.2 a
  · rw [lens_st, len_st]
    exact Kd.R_mono (Kd.R_grown2 h.sizes rfl hg (fun k e hk => by
      cases e
      obtain ⟨cells, hc⟩ := Kd.R_typed h.sizes mp hk.symm
      rw [hmb] at hc
      cases hc)) (fun k hk => .inl hk)
  · intro kl hk hh
    by_cases e : kl = kp i j
    · exact ⟨i, j, e, (inR_st hij.1).2 hij⟩
    · rw [has_put_other e] at hh
      obtain ⟨a, b, e1, e2⟩ := h.keys kl hk hh
      exact ⟨a, b, e1, (inR_st hij.1).2 e2⟩
  · intro a b hab
    rw [inR_st hij.1] at hab
    rw [gt_st hij]
    by_cases e : a = i ∧ b = j
    · obtain ⟨rfl, rfl⟩ := e
      rw [if_pos ⟨rfl, rfl⟩]
      exact .inr ⟨q, has_put_same hD hkey _, fun z => atKey_put_same hD hkey _ _, .inr rfl, ht.heap hq ne2⟩
    · rw [if_neg e, atKey_put_other (neK hab e), has_put_other (neK hab e)]
      rcases h.spots a b hab with h1 | ⟨q2, h1, h2, h3, h4⟩
      · exact .inl h1
      · refine .inr ⟨q2, h1, fun z => ?_, .inl h3, ht.heap h4 (fun e2 => ?_)⟩
        · rw [atKey_put_other (neK hab e)]
          exact h2 z
        · subst e2
          rw [h4] at hmb
          cases hmb
  · intro a b a' b' q2 h1 h2
    rw [inR_st hij.1] at h1 h2
    have noq : ∀ {x y : Nat}, InR F x y → D.atKey (kp x y) (pz (-1)) = pz (q : Int) → False := fun hxy e => by
      rcases h.spots _ _ hxy with ⟨h3, _⟩ | ⟨q3, _, h3, h4, _⟩
      · have := h3.symm.trans e
        injection this with this
        injection this with _ this
        omega
      · have := (h3 (pz (-1))).symm.trans e
        injection this with this
        injection this with _ this
        have e5 : q3 = q := by omega
        exact hfresh (e5 ▸ h4)
    by_cases e1 : a = i ∧ b = j
    · by_cases e2 : a' = i ∧ b' = j
      · intro _ _
        exact ⟨by omega, by omega⟩
      · obtain ⟨rfl, rfl⟩ := e1
        rw [atKey_put_same hD hkey, atKey_put_other (neK h2 e2)]
        intro e3 e4
        exact absurd (e4.trans e3.symm) (noq h2)
    · rw [atKey_put_other (neK h1 e1)]
      by_cases e2 : a' = i ∧ b' = j
      · obtain ⟨rfl, rfl⟩ := e2
        rw [atKey_put_same hD hkey]
        intro e3 e4
        exact absurd (e3.trans e4.symm) (noq h1)
      · rw [atKey_put_other (neK h2 e2)]
        exact h.apart a b a' b' q2 h1 h2
/-- Another function's row: n places, none seen. -/
theorem BkAt.row (h : BkAt W S bp mp A c D F N) (n : Nat) (hn : n ≤ 1099511627776) (hl : F.length + 1 ≤ 1099511627776) {A1 : Option Addr} {c1 : Nat} {S1 : Nat → Prop} (hs : ∀ k, S k → S1 k)
    (hb : W1.heap[bp]? = some (.cells #[.slice A1 (F.length + 1) c1, .map (some mp)] 79 (0, 0))) (hR : Kd.R (Kd.int .i64) 3 W1 0 S1 (.slice A1 (F.length + 1) c1) ((F.map fun r => (r.length : Int)) ++ [(n : Int)]))
    (ht : Turn W W1 T) (hm : ¬ T mp) (hq : ∀ q, S q → (∃ cs, W.heap[q]? = some (.cells cs 87 (0, 0))) → ¬ T q) : BkAt W1 S1 bp mp A1 c1 D (F ++ [List.replicate n z51]) N := by
  have hin : ∀ {i j}, InR (F ++ [List.replicate n z51]) i j → InR F i j ∨ (i = F.length ∧ j < n) := fun {i j} ⟨h1, h2⟩ => by
    rw [rw_snoc] at h2
    rw [List.length_append, List.length_singleton] at h1
    by_cases e : i = F.length
    · rw [if_pos e, List.length_replicate] at h2
      exact .inr ⟨e, h2⟩
    · rw [if_neg e] at h2
      exact .inl ⟨by omega, h2⟩
  have hin2 : ∀ {i j}, InR F i j → InR (F ++ [List.replicate n z51]) i j := fun {i j} ⟨h1, h2⟩ => by
    refine ⟨by rw [List.length_append, List.length_singleton]; omega, ?_⟩
    rw [rw_snoc, if_neg (by omega)]
    exact h2
  have hgt : ∀ {i j}, InR F i j → gt (F ++ [List.replicate n z51]) i j = gt F i j := fun {i j} ⟨h1, h2⟩ => by
    unfold gt
    rw [rw_snoc, if_neg (by omega)]
  have habs : ∀ {j : Nat}, j < n → Maps.has D (kp F.length j) = false := fun {j} hj => by
    cases hh : Maps.has D (kp F.length j) with
    | false => rfl
    | true =>
      have hI1 : I64 (F.length : Int) := i64_nat h.len.1
      have hI2 : I64 (j : Int) := i64_nat (by omega)
      obtain ⟨a, b, e1, e2⟩ := h.keys _ ⟨_, keyOf_mk _ _ hI1 hI2⟩ hh
      have h3 := kp_inj hI1 hI2 (h.i64 e2).1 (h.i64 e2).2 e1
      have := e2.1
      omega
  refine ⟨by rw [List.length_append]; exact hb, hs _ h.hS, hs _ h.mS, ⟨by rw [List.length_append, List.length_singleton]; exact hl, fun i => ?_⟩, ?_, BkAt.own_keep h.own ht hm, ?_, ?_, ?_⟩
  · rw [rw_snoc]
    split
    · rw [List.length_replicate]
      exact hn
    · exact h.len.2 i
  · rw [List.map_append, List.length_append]
    simpa using hR
  · intro kl hk hh
    obtain ⟨a, b, e1, e2⟩ := h.keys kl hk hh
    exact ⟨a, b, e1, hin2 e2⟩
  · intro i j hij
    rcases hin hij with h1 | ⟨h1, h2⟩
    · rw [hgt h1]
      exact (h.spots i j h1).imp id (fun ⟨q, h3, h4, h5, h6⟩ => ⟨q, h3, h4, hs _ h5, ht.heap h6 (hq q h5 ⟨_, h6⟩)⟩)
    · subst h1
      refine .inl ⟨atKey_of_not_has (habs h2) _, habs h2, ?_⟩
      unfold gt
      rw [rw_snoc, if_pos rfl]
      simp [List.getD_eq_getElem?_getD, h2]
  · have hno : ∀ {i j q : Nat}, i = F.length → j < n → D.atKey (kp i j) (pz (-1)) = pz (q : Int) → False := fun {i j q} e hj hh => by
      subst e
      rw [atKey_of_not_has (habs hj)] at hh
      injection hh with hh
      injection hh with _ hh
      omega
    intro i j i' j' q h1 h2 h3 h4
    rcases hin h1 with h5 | ⟨h5, h6⟩
    · rcases hin h2 with h7 | ⟨h7, h8⟩
      · exact h.apart i j i' j' q h5 h7 h3 h4
      · exact (hno h7 h8 h4).elim
    · exact (hno h5 h6 h3).elim
/-- The same, behind an append to the row of sizes and the store of what it gave. -/
theorem BkAt.row2 (h : BkAt W S bp mp A c D F N) (n : Nat) (hn : n ≤ 1099511627776) (hl : F.length + 1 ≤ 1099511627776) {B : Nat} {ok : Nat → Prop} {A1 : Option Addr} {m1 c1 : Nat} (hm1 : m1 = F.length + 1) (hR : Kd.R (Kd.int .i64) 3 W1 B ok (.slice A1 m1 c1) ((F.map fun r => (r.length : Int)) ++ [(n : Int)]))
    (hg : W.grownBy W1 (Value.slice A F.length c).ownBlock) (hat : (Value.slice A1 m1 c1).ownBlock = (Value.slice A F.length c).ownBlock ∨ ∃ b, (Value.slice A1 m1 c1).ownBlock = some b ∧ W.heap.size ≤ b) :
    BkAt (W1.setCell ⟨bp, 0, none⟩ (.slice A1 m1 c1)) (fun k => S k ∨ W.heap.size ≤ k) bp mp A1 c1 D (F ++ [List.replicate n z51]) N ∧ Turn W (W1.setCell ⟨bp, 0, none⟩ (.slice A1 m1 c1)) S := by
  subst hm1
  have hty := Kd.R_typed h.sizes
  obtain ⟨es, clock, hmb, _⟩ := h.own
  have nb : some bp ≠ (Value.slice A F.length c).ownBlock := Kd.R_ne h.sizes h.hb (by decide)
  have nm : some mp ≠ (Value.slice A F.length c).ownBlock := fun e => by
    obtain ⟨cells, hc⟩ := hty mp e.symm
    rw [hmb] at hc
    cases hc
  have t1 : Turn W W1 (fun k => k = bp ∨ some k = (Value.slice A F.length c).ownBlock) := Turn.of_grown hg (fun k e => .inr e.symm)
  have ht : Turn W (W1.setCell ⟨bp, 0, none⟩ (.slice A1 (F.length + 1) c1)) (fun k => k = bp ∨ some k = (Value.slice A F.length c).ownBlock) := t1.then_ (Turn.set W1 ⟨bp, 0, none⟩ _ (S := fun k => k = bp) rfl) (fun k hk => .inl (.inl hk))
  have hb1 := blk_grown h.hb hg nb
  refine ⟨h.row n hn hl (fun k hk => .inl hk) (blk_set hb1 0 _) ?_ ht ?_ (fun q hq ⟨cs, hc⟩ e => ?_), ht.mono (fun k hk => ?_)⟩
  · have hR2 := Kd.R_set (Kd.R_lower hR (Nat.zero_le _)) hb1 (by decide) 0 (.slice A1 (F.length + 1) c1)
    refine Kd.R_mono (Kd.R_tight rfl hR2) (fun k hk => ?_)
    rcases hat with e | ⟨b, e, hle⟩
    · exact .inl (h.sizes.1 k (e.symm.trans hk.symm))
    · rw [e] at hk
      cases hk
      exact .inr hle
  · rintro (e | e)
    · subst e
      rw [h.hb] at hmb
      cases hmb
    · exact nm e
  · rcases e with e | e
    · subst e
      rw [h.hb] at hc
      cases hc
    · obtain ⟨cells, hc2⟩ := hty q e.symm
      rw [hc] at hc2
      cases hc2
  · rcases hk with rfl | e
    · exact h.hS
    · exact h.sizes.1 k e.symm
end
end Go.Proofs.YtjeaojolhdfpeaaGreat.BookB
