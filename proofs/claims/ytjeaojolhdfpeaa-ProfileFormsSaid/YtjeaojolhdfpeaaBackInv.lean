/- What was read is what its form says: bytes that are read as a profile are that profile's form. Plain lists and numbers. -/
import Derived.Test.YtjeaojolhdfpeaaBackPure
namespace Go.Proofs.Ytjeaojolhdfpeaa.BackInv
open Go.RowKit Go.Proofs.YtjeaojolhdfpeaaW.PrintWords Go.Proofs.YtjeaojolhdfpeaaW.PrintMore
open Go.Proofs.Ytjeaojolhdfpeaa.PProfileForms Go.Proofs.Ytjeaojolhdfpeaa.Reader Go.Proofs.Ytjeaojolhdfpeaa.Methods Go.Proofs.Ytjeaojolhdfpeaa.SpotOf Go.Proofs.Ytjeaojolhdfpeaa.Decode Go.Proofs.Ytjeaojolhdfpeaa.BackPure
open Go.Proofs.Ytjeaojolhdfpeaa.Form (uv uv_small uv_big partB spotForm rowForm headForm form foldZ flagsOf Rg okProf many)
set_option linter.unusedVariables false
set_option linter.unusedSimpArgs false

theorem pre_nil (bs : List Int) (a : Nat) : Pre bs a [] := ⟨_, rfl⟩
theorem pre_cons {bs : List Int} {a : Nat} {c : Int} {xs : List Int} (h1 : a < bs.length) (h2 : rd bs (a : Int) = c) (h3 : Pre bs (a + 1) xs) : Pre bs a (c :: xs) := by
  obtain ⟨r, hr⟩ := h3
  refine ⟨r, ?_⟩
  rw [List.drop_eq_getElem_cons h1, hr]
  have : bs[a] = c := by simpa [rd, List.getD_eq_getElem?_getD, List.getElem?_eq_getElem h1] using h2
  rw [this]
  rfl
theorem pre_app {bs : List Int} {a : Nat} {xs ys : List Int} (h1 : Pre bs a xs) (h2 : Pre bs (a + xs.length) ys) : Pre bs a (xs ++ ys) := by
  obtain ⟨r1, e1⟩ := h1
  obtain ⟨r2, e2⟩ := h2
  rw [← List.drop_drop, e1, List.drop_left] at e2
  exact ⟨r2, by rw [e1, e2, List.append_assoc]⟩
theorem numR_inv (bs : List Int) (a : Nat) (hb : Bytes bs) : ∀ (d i : Nat) (x y : Int) (n : Nat), numR bs a d i x = (y, n, 0) → ∃ m : Nat, y = x + (m : Int) * 128 ^ i ∧ n = i + (uv m).length ∧ Pre bs (a + i) (uv m) ∧ (0 < i → 0 < m) := by
  intro d
  induction d with
  | zero =>
    intro i x y n h
    simp [numR] at h
  | succ d ih =>
    intro i x y n h
    have hr := bytes_rd hb (a + i)
    simp only [numR] at h
    split at h
    · rename_i hlt
      split at h
      · simp at h
      · rename_i hc
        split at h
        · rename_i hs
          simp only [Prod.mk.injEq] at h
          obtain ⟨h1, h2, _⟩ := h
          have e : ((rd bs ((a + i : Nat) : Int)).toNat : Int) = rd bs ((a + i : Nat) : Int) := by omega
          have hm : (rd bs ((a + i : Nat) : Int)).toNat < 128 := by omega
          refine ⟨(rd bs ((a + i : Nat) : Int)).toNat, by rw [e]; exact h1.symm, by rw [uv_small hm]; exact h2.symm, ?_, fun h0 => ?_⟩
          · rw [uv_small hm, e]
            exact pre_cons hlt rfl (pre_nil _ _)
          · by_cases hz : rd bs ((a + i : Nat) : Int) = 0
            · exact absurd (Or.inr ⟨h0, hz⟩) hc
            · omega
        · rename_i hs
          obtain ⟨m, h1, h2, h3, h4⟩ := ih _ _ _ _ h
          have h5 := h4 (Nat.succ_pos i)
          obtain ⟨q, hq⟩ : ∃ q : Nat, rd bs ((a + i : Nat) : Int) = ((q + 128 : Nat) : Int) := ⟨(rd bs ((a + i : Nat) : Int)).toNat - 128, by omega⟩
          have hq2 : q < 128 := by omega
          have hbig : 128 ≤ q + 128 * m := by omega
          have e1 : (q + 128 * m) % 128 = q := by omega
          have e2 : (q + 128 * m) / 128 = m := by omega
          refine ⟨q + 128 * m, ?_, ?_, ?_, fun _ => by omega⟩
          · rw [h1, hq, pow_step]
            generalize (128 : Int) ^ i = P
            have e3 : ((q + 128 : Nat) : Int) - 128 = (q : Int) := by omega
            have e4 : ((q + 128 * m : Nat) : Int) = (q : Int) + 128 * (m : Int) := by omega
            rw [e3, e4, Int.add_mul, Int.add_assoc]
            have e5 : (m : Int) * (P * 128) = 128 * (m : Int) * P := by rw [Int.mul_comm P 128, ← Int.mul_assoc, Int.mul_comm (m : Int) 128]
            rw [e5]
          · rw [uv_big hbig, e2, List.length_cons, h2]
            omega
          · rw [uv_big hbig, e1, e2]
            exact pre_cons hlt hq h3
    · simp at h
theorem num_inv {bs : List Int} {a : Nat} (hb : Bytes bs) (h : (num bs a).2.2 = 0) : ∃ m : Nat, (num bs a).1 = (m : Int) ∧ (num bs a).2.1 = (uv m).length ∧ Pre bs a (uv m) := by
  obtain ⟨m, h1, h2, h3, _⟩ := numR_inv bs a hb 10 0 0 (num bs a).1 (num bs a).2.1 (by
    show num bs a = _
    rw [← h])
  exact ⟨m, by simpa using h1, by simpa using h2, by simpa using h3⟩
theorem uintR_inv {bs : List Int} {a : Nat} (hb : Bytes bs) (h : (uintR bs a 0).2.2 = 0) : ∃ m : Nat, (uintR bs a 0).1 = (m : Int) ∧ (uintR bs a 0).2.1 = a + (uv m).length ∧ Pre bs a (uv m) ∧ m < 18446744073709551616 := by
  have hn : (num bs a).2.2 = 0 := by
    unfold uintR rdNum at h
    rw [if_neg (by decide)] at h
    split at h
    · assumption
    · exact h
  obtain ⟨m, h1, h2, h3⟩ := num_inv hb hn
  have hr := num_range bs a hb
  have e : uintR bs a 0 = ((num bs a).1, a + (num bs a).2.1, 0) := by
    unfold uintR rdNum
    rw [if_neg (by decide), if_pos hn]
  rw [e]
  exact ⟨m, h1, by rw [h2], h3, by omega⟩
theorem countR_inv {bs : List Int} {a : Nat} {most : Int} (hb : Bytes bs) (h : (countR bs a most 0).2.2 = 0) : ∃ m : Nat, (countR bs a most 0).1 = (m : Int) ∧ (m : Int) ≤ most ∧ (countR bs a most 0).2.1 = a + (uv m).length ∧ Pre bs a (uv m) := by
  have hc : (cnt bs a most).2.2 = 0 := by
    unfold countR rdNum at h
    rw [if_neg (by decide)] at h
    split at h
    · assumption
    · exact h
  have hn : (num bs a).2.2 = 0 ∧ ¬ (num bs a).1 > most := by
    unfold cnt at hc
    split at hc
    · split at hc
      · simp at hc
      · exact ⟨by assumption, by assumption⟩
    · rename_i h1
      exact absurd hc h1
  obtain ⟨m, h1, h2, h3⟩ := num_inv hb hn.1
  have e0 : cnt bs a most = num bs a := by
    unfold cnt
    rw [if_pos hn.1, if_neg hn.2]
  have e : countR bs a most 0 = ((num bs a).1, a + (num bs a).2.1, 0) := by
    unfold countR rdNum
    rw [if_neg (by decide), e0, if_pos hn.1]
  rw [e]
  exact ⟨m, h1, by have := hn.2; omega, by rw [h2], h3⟩
theorem countR_keep (bs : List Int) (a : Nat) (most e : Int) (he : e ≠ 0) : (countR bs a most e).2.2 = e := by
  unfold countR rdNum
  rw [if_pos he]
/-- One field. -/
theorem field_inv {bs : List Int} {fl : Int} {d a : Nat} {s : S28} (hb : Bytes bs) (h : (fieldsR bs fl (d + 1) s a).1 = 0) :
    ∃ n : Nat, n < 18446744073709551616 ∧ (fl / 2 ^ (3 - d) % 2 = 0 ↔ n = 0) ∧ Pre bs a (BackPure.part n) ∧
      ∃ s', fieldsR bs fl (d + 1) s a = fieldsR bs fl d s' (a + (BackPure.part n).length) ∧ (n = 0 → s' = s) ∧ (n ≠ 0 → s' = setF s (3 - d) (if d = 0 then Nums3.unzig (n : Int) else (n : Int)) ∧ okSpot s' = true) := by
  simp only [fieldsR] at h ⊢
  by_cases h1 : fl / 2 ^ (3 - d) % 2 = 0
  · refine ⟨0, by decide, ⟨fun _ => rfl, fun _ => h1⟩, pre_nil _ _, s, ?_, fun _ => rfl, fun h => absurd rfl h⟩
    rw [if_pos h1]
    rfl
  · rw [if_neg h1] at h ⊢
    by_cases h2 : (uintR bs a 0).2.2 = 0
    · rw [if_neg (by simpa using h2)] at h ⊢
      obtain ⟨m, e1, e2, e3, e4⟩ := uintR_inv hb h2
      by_cases h3 : (uintR bs a 0).1 = 0
      · rw [if_pos h3] at h
        simp at h
      · rw [if_neg h3] at h ⊢
        have hm : m ≠ 0 := fun e => h3 (by rw [e1, e]; rfl)
        have hp : BackPure.part m = uv m := if_neg hm
        by_cases h4 : okSpot (setF s (3 - d) (if d = 0 then Nums3.unzig (uintR bs a 0).1 else (uintR bs a 0).1)) = true
        · rw [if_pos h4] at h ⊢
          rw [e1] at h4 ⊢
          rw [e2]
          exact ⟨m, e4, ⟨fun h => absurd h h1, fun h => absurd h hm⟩, by rw [hp]; exact e3, _, by rw [hp], fun h => absurd h hm, fun _ => ⟨rfl, h4⟩⟩
        · rw [if_neg h4] at h
          simp at h
    · rw [if_pos (by simpa using h2)] at h
      exact absurd h h2
theorem fold_unzig (n : Nat) : foldZ (Nums3.unzig (n : Int)) = (n : Int) := by
  unfold foldZ Nums3.unzig
  split <;> split <;> omega
theorem unzig_zero (n : Nat) : Nums3.unzig (n : Int) = 0 ↔ n = 0 := by
  unfold Nums3.unzig
  split <;> omega
theorem flags_bits {fl : Int} (h0 : 0 ≤ fl) (h1 : fl ≤ 15) {s : S28} (b0 : fl / 2 ^ (3 - 3) % 2 = 0 ↔ s.f0 = 0) (b1 : fl / 2 ^ (3 - 2) % 2 = 0 ↔ s.f1 = 0) (b2 : fl / 2 ^ (3 - 1) % 2 = 0 ↔ s.f2 = 0) (b3 : fl / 2 ^ (3 - 0) % 2 = 0 ↔ s.f3 = 0) : flagsOf s = fl := by
  unfold flagsOf
  simp only [← b0, ← b1, ← b2, ← b3]
  have hf : fl = 0 ∨ fl = 1 ∨ fl = 2 ∨ fl = 3 ∨ fl = 4 ∨ fl = 5 ∨ fl = 6 ∨ fl = 7 ∨ fl = 8 ∨ fl = 9 ∨ fl = 10 ∨ fl = 11 ∨ fl = 12 ∨ fl = 13 ∨ fl = 14 ∨ fl = 15 := by omega
  rcases hf with rfl | rfl | rfl | rfl | rfl | rfl | rfl | rfl | rfl | rfl | rfl | rfl | rfl | rfl | rfl | rfl <;> decide
theorem spotR_inv {bs : List Int} {a : Nat} (hb : Bytes bs) (h : (spotR bs a).1 = 0) : BackPure.Good (spotR bs a).2.1 ∧ Pre bs a (spotForm (spotR bs a).2.1) ∧ (spotR bs a).2.2 = a + (spotForm (spotR bs a).2.1).length := by
  have hr := bytes_rd hb a
  unfold spotR at h ⊢
  by_cases h1 : a < bs.length
  · rw [if_pos h1] at h ⊢
    by_cases h2 : rd bs (a : Int) > 15
    · rw [if_pos h2] at h
      simp at h
    · rw [if_neg h2] at h ⊢
      obtain ⟨n0, l0, b0, p0, s0, e0, z0, k0⟩ := field_inv hb h
      rw [e0] at h ⊢
      obtain ⟨n1, l1, b1, p1, s1, e1, z1, k1⟩ := field_inv hb h
      rw [e1] at h ⊢
      obtain ⟨n2, l2, b2, p2, s2, e2, z2, k2⟩ := field_inv hb h
      rw [e2] at h ⊢
      obtain ⟨n3, l3, b3, p3, s3, e3, z3, k3⟩ := field_inv hb h
      rw [e3] at h ⊢
      simp only [fieldsR] at h ⊢
      have q0 : s0 = ⟨(n0 : Int), 0, 0, 0⟩ ∧ n0 ≤ 9223372036854775807 := by
        by_cases hz : n0 = 0
        · subst hz
          exact ⟨z0 rfl, by omega⟩
        · obtain ⟨f1, f2⟩ := k0 hz
          have e : s0 = ⟨wrap64 (n0 : Int), 0, 0, 0⟩ := f1
          rw [e] at f2
          simp only [okSpot, Bool.and_eq_true, decide_eq_true_eq] at f2
          have hw : wrap64 (n0 : Int) = (n0 : Int) ∧ n0 ≤ 9223372036854775807 := by
            have f3 := f2.1
            unfold wrap64 at f3 ⊢
            omega
          rw [e, hw.1]
          exact ⟨rfl, hw.2⟩
      have q1 : s1 = ⟨(n0 : Int), (n1 : Int), 0, 0⟩ ∧ n1 ≤ 1023 := by
        by_cases hz : n1 = 0
        · subst hz
          exact ⟨(z1 rfl).trans q0.1, by omega⟩
        · obtain ⟨f1, f2⟩ := k1 hz
          have e : s1 = ⟨s0.f0, if 32768 < (n1 : Int) then 32768 else (n1 : Int), s0.f2, s0.f3⟩ := f1
          rw [q0.1] at e
          rw [e] at f2
          simp only [okSpot, Bool.and_eq_true, decide_eq_true_eq] at f2
          have f3 := f2.2.1
          split at f3
          · omega
          · rename_i h5
            rw [e, if_neg h5]
            exact ⟨rfl, by omega⟩
      have q2 : s2 = ⟨(n0 : Int), (n1 : Int), (n2 : Int), 0⟩ ∧ n2 ≤ 1023 := by
        by_cases hz : n2 = 0
        · subst hz
          exact ⟨(z2 rfl).trans q1.1, by omega⟩
        · obtain ⟨f1, f2⟩ := k2 hz
          have e : s2 = ⟨s1.f0, s1.f1, if 32768 < (n2 : Int) then 32768 else (n2 : Int), s1.f3⟩ := f1
          rw [q1.1] at e
          rw [e] at f2
          simp only [okSpot, Bool.and_eq_true, decide_eq_true_eq] at f2
          have f3 := f2.2.2.1
          split at f3
          · omega
          · rename_i h5
            rw [e, if_neg h5]
            exact ⟨rfl, by omega⟩
      have q3 : s3 = ⟨(n0 : Int), (n1 : Int), (n2 : Int), Nums3.unzig (n3 : Int)⟩ ∧ -1 ≤ Nums3.unzig (n3 : Int) ∧ Nums3.unzig (n3 : Int) ≤ 128 := by
        by_cases hz : n3 = 0
        · subst hz
          exact ⟨(z3 rfl).trans q2.1, by decide⟩
        · obtain ⟨f1, f2⟩ := k3 hz
          have e : s3 = ⟨s2.f0, s2.f1, s2.f2, Nums3.unzig (n3 : Int)⟩ := f1
          rw [q2.1] at e
          rw [e] at f2
          simp only [okSpot, Bool.and_eq_true, decide_eq_true_eq] at f2
          exact ⟨e, f2.2.2.2⟩
      rw [q3.1]
      have hok : okSpot ⟨(n0 : Int), (n1 : Int), (n2 : Int), Nums3.unzig (n3 : Int)⟩ = true := by
        simp only [okSpot, Bool.and_eq_true, decide_eq_true_eq]
        have := q1.2
        have := q2.2
        have := q3.2
        omega
      have hg : BackPure.Good ⟨(n0 : Int), (n1 : Int), (n2 : Int), Nums3.unzig (n3 : Int)⟩ := ⟨hok, by
        have := q0.2
        have := q1.2
        have := q2.2
        have := q3.2
        unfold Rg
        simp only
        omega⟩
      have hfl : flagsOf ⟨(n0 : Int), (n1 : Int), (n2 : Int), Nums3.unzig (n3 : Int)⟩ = rd bs (a : Int) :=
        flags_bits hr.1 (by omega) (b0.trans (by simp)) (b1.trans (by simp)) (b2.trans (by simp)) (b3.trans (unzig_zero n3).symm)
      have hform := form_parts hg
      rw [hfl] at hform
      simp only [Int.toNat_natCast, fold_unzig] at hform
      refine ⟨hg, ?_, ?_⟩
      · rw [hform]
        exact pre_cons h1 rfl (pre_app p0 (pre_app p1 (pre_app p2 p3)))
      · rw [hform]
        simp only [List.length_cons, List.length_append]
        omega
  · rw [if_neg h1] at h
    simp at h
theorem spotsA_inv {bs : List Int} (hb : Bytes bs) : ∀ (m : Nat) (l : List S28) (a : Nat), (spotsA bs m l a).1 = 0 → ∃ x : List S28, (spotsA bs m l a).2.1 = l ++ x ∧ x.length = m ∧ (∀ s ∈ x, BackPure.Good s) ∧ Pre bs a (x.flatMap spotForm) ∧ (spotsA bs m l a).2.2 = a + (x.flatMap spotForm).length := by
  intro m
  induction m with
  | zero =>
    intro l a h
    exact ⟨[], by simp [spotsA], rfl, by simp, pre_nil _ _, by simp [spotsA]⟩
  | succ m ih =>
    intro l a h
    simp only [spotsA] at h ⊢
    by_cases h1 : (spotR bs a).1 = 0
    · rw [if_neg (by simpa using h1)] at h ⊢
      obtain ⟨hg, hp, he⟩ := spotR_inv hb h1
      obtain ⟨x, e1, e2, e3, e4, e5⟩ := ih _ _ h
      refine ⟨(spotR bs a).2.1 :: x, by rw [e1, List.append_assoc]; rfl, by simp [e2], fun s hs => ?_, ?_, ?_⟩
      · rcases List.mem_cons.1 hs with rfl | hs
        · exact hg
        · exact e3 s hs
      · rw [List.flatMap_cons]
        exact pre_app hp (by rw [← he]; exact e4)
      · rw [e5, he, List.flatMap_cons, List.length_append]
        omega
    · rw [if_pos (by simpa using h1)] at h
      exact absurd h h1
theorem rowsA_inv {bs : List Int} (hb : Bytes bs) : ∀ (n : Nat) (ls : List (List S28)) (a : Nat) (e : Int), (rowsA bs n ls a e).1 = 0 → (rowsA bs n ls a e).2.2.2 = 0 → e = 0 ∧ ∃ x : List (List S28), (rowsA bs n ls a e).2.1 = ls ++ x ∧ x.length = n ∧ (∀ r ∈ x, r.length ≤ 2000) ∧ (∀ r ∈ x, ∀ s ∈ r, BackPure.Good s) ∧ Pre bs a (x.flatMap rowForm) ∧ (rowsA bs n ls a e).2.2.1 = a + (x.flatMap rowForm).length := by
  intro n
  induction n with
  | zero =>
    intro ls a e h1 h2
    exact ⟨h2, [], by simp [rowsA], rfl, by simp, by simp, pre_nil _ _, by simp [rowsA]⟩
  | succ n ih =>
    intro ls a e h1 h2
    simp only [rowsA] at h1 h2 ⊢
    by_cases h3 : (spotsA bs (countR bs a 2000 e).1.toNat [] (countR bs a 2000 e).2.1).1 = 0
    · rw [if_neg (by simpa using h3)] at h1 h2 ⊢
      obtain ⟨he, x, e1, e2, e3, e4, e5, e6⟩ := ih _ _ _ h1 h2
      have he0 : e = 0 := by
        by_cases hz : e = 0
        · exact hz
        · exact absurd ((countR_keep bs a 2000 e hz).symm.trans he) hz
      subst he0
      obtain ⟨m, c1, c2, c3, c4⟩ := countR_inv hb he
      rw [c1, c3, Int.toNat_natCast] at h3 e1 e5 e6
      rw [c1, c3, Int.toNat_natCast]
      obtain ⟨y, g1, g2, g3, g4, g5⟩ := spotsA_inv hb _ _ _ h3
      rw [List.nil_append] at g1
      have hrow : rowForm y = uv m ++ y.flatMap spotForm := by
        unfold rowForm
        rw [g2]
      rw [g1] at e1 e6
      rw [g5] at e5 e6
      refine ⟨rfl, y :: x, by rw [g1, e1, List.append_assoc]; rfl, by simp [e2], fun r hr => ?_, fun r hr => ?_, ?_, ?_⟩
      · rcases List.mem_cons.1 hr with rfl | hr
        · omega
        · exact e3 r hr
      · rcases List.mem_cons.1 hr with rfl | hr
        · exact g3
        · exact e4 r hr
      · rw [List.flatMap_cons, hrow]
        refine pre_app (pre_app c4 g4) ?_
        rw [List.length_append, ← Nat.add_assoc]
        exact e5
      · rw [g1, g5, e6, List.flatMap_cons, hrow, List.length_append, List.length_append]
        omega
    · rw [if_pos (by simpa using h3)] at h1
      exact absurd h1 h3
/-- Bytes that are read as a profile are its form. -/
theorem dec_inv {bs : List Int} (hb : Bytes bs) (h : (dec bs).1 = 0) : GoodP (dec bs).2 ∧ bs = form (dec bs).2 := by
  unfold dec at h ⊢
  split at h
  · simp at h
  · rename_i h1
    rw [if_neg h1]
    split at h
    · simp at h
    · rename_i h2
      rw [if_neg h2]
      split at h
      · rename_i h3
        exact absurd h h3
      · rename_i h3
        rw [if_neg h3]
        split at h
        · rename_i h4
          exact absurd h h4
        · rename_i h4
          rw [if_neg h4]
          split at h
          · simp at h
          · rename_i h5
            rw [if_neg h5]
            have h2' : bs.take 4 = magic := Decidable.not_not.1 h2
            obtain ⟨he, x, e1, e2, e3, e4, e5, e6⟩ := rowsA_inv hb _ _ _ _ (Decidable.not_not.1 h3) (Decidable.not_not.1 h4)
            obtain ⟨m, c1, c2, c3, c4⟩ := countR_inv hb he
            rw [List.nil_append] at e1
            rw [c1, Int.toNat_natCast] at e2
            rw [c3] at e5
            rw [e6, c3] at h5
            show GoodP (rowsA bs (countR bs 4 128 0).1.toNat [] (countR bs 4 128 0).2.1 (countR bs 4 128 0).2.2).2.1 ∧ _
            rw [e1]
            refine ⟨⟨by omega, e3, e4⟩, ?_⟩
            obtain ⟨r, hr⟩ := pre_app c4 e5
            have hlen := congrArg List.length hr
            rw [List.length_drop, List.length_append, List.length_append] at hlen
            have hr0 : r = [] := List.eq_nil_of_length_eq_zero (by omega)
            rw [hr0, List.append_nil] at hr
            rw [form_tail, e2]
            have := List.take_append_drop 4 bs
            rw [h2', hr] at this
            exact this.symm
end Go.Proofs.Ytjeaojolhdfpeaa.BackInv
