/- Relay: bytes that are opened are the form of what they hold; what is refused has nothing beside it. Plain lists and numbers. -/
import Derived.Test.YtcgajjaaiablkaaRHd
import Derived.Test.YtcgajjaaiablkaaRUv
import Derived.Test.YtcgajjaaiablkaaRSealP
namespace Go.Proofs.Ytcgajjaaiablkaa.ROneP
open Go.RowKit Go.Proofs.YtcgajjaaiablkaaW.PrintWords Go.Proofs.YtcgajjaaiablkaaW.PrintLast Go.Proofs.YtcgajjaaiablkaaW.PrintMore
open Go.Proofs.Ytcgajjaaiablkaa.Reader Go.Proofs.Ytcgajjaaiablkaa.RRaw Go.Proofs.Ytcgajjaaiablkaa.RCount Go.Proofs.Ytcgajjaaiablkaa.RText Go.Proofs.Ytcgajjaaiablkaa.RWord Go.Proofs.Ytcgajjaaiablkaa.RefRd Go.Proofs.Ytcgajjaaiablkaa.ShaEnd Go.Proofs.Ytcgajjaaiablkaa.RHd Go.Proofs.Ytcgajjaaiablkaa.RSealed
open Go.Proofs.Ytcgajjaaiablkaa.RUv (uv uv_small uv_big uv_length)
set_option linter.unusedVariables false
set_option linter.unusedSimpArgs false

/-- xs stands in bs from a on. -/
def Pre (bs : List Int) (a : Nat) (xs : List Int) : Prop := ∃ r, bs.drop a = xs ++ r
theorem Pre.nil (bs : List Int) (a : Nat) : Pre bs a [] := ⟨_, rfl⟩
theorem Pre.cons' {bs xs : List Int} {c : Int} {a : Nat} (hlt : a < bs.length) (hc : rd bs (a : Int) = c) (h : Pre bs (a + 1) xs) : Pre bs a (c :: xs) := by
  obtain ⟨r, h⟩ := h
  exact ⟨r, by rw [drop_rd bs a hlt, hc, h]; rfl⟩
theorem Pre.join {bs xs ys : List Int} {a : Nat} (h : Pre bs a xs) (k : Pre bs (a + xs.length) ys) : Pre bs a (xs ++ ys) := by
  obtain ⟨r, h⟩ := h
  obtain ⟨s, k⟩ := k
  rw [← List.drop_drop, h, List.drop_left] at k
  exact ⟨s, by rw [h, k, List.append_assoc]⟩
theorem pow_step (i : Nat) : (128 : Int) ^ (i + 1) = 128 ^ i * 128 := Int.pow_succ ..
theorem numR_inv (bs : List Int) (a : Nat) (hb : Bytes bs) : ∀ (d i : Nat) (x X : Int) (n : Nat), numR bs a d i x = (X, n, 0) → ∃ m : Nat, Pre bs (a + i) (uv m) ∧ X = x + (m : Int) * 128 ^ i ∧ n = i + (uv m).length ∧ (0 < i → 0 < m) := by
  intro d
  induction d with
  | zero => intro i x X n h; simp [numR] at h
  | succ d ih =>
    intro i x X n h
    have hc := bytes_rd hb (a + i)
    obtain ⟨c, hce⟩ : ∃ c, c = rd bs ((a + i : Nat) : Int) := ⟨_, rfl⟩
    simp only [numR] at h
    rw [← hce] at h hc
    by_cases hlt : a + i < bs.length
    · rw [if_pos hlt] at h
      by_cases hbad : (i = 9 ∧ c ≠ 1) ∨ (0 < i ∧ c = 0)
      · rw [if_pos hbad] at h; simp at h
      · rw [if_neg hbad] at h
        by_cases hs : c < 128
        · rw [if_pos hs] at h
          simp only [Prod.mk.injEq] at h
          obtain ⟨m, hm⟩ : ∃ m : Nat, (m : Int) = c := ⟨c.toNat, by omega⟩
          have hu : uv m = [c] := by rw [uv_small (by omega), hm]
          refine ⟨m, ?_, by rw [hm, h.1], by rw [hu]; exact h.2.1.symm, fun h0 => ?_⟩
          · rw [hu]; exact Pre.cons' hlt hce.symm (Pre.nil _ _)
          · rcases Nat.eq_zero_or_pos m with h1 | h1
            · exact absurd (.inr ⟨h0, by omega⟩) hbad
            · exact h1
        · rw [if_neg hs] at h
          obtain ⟨m', h1, h2, h3, h4⟩ := ih (i + 1) _ X n h
          have h5 := h4 (by omega)
          obtain ⟨m, hm⟩ : ∃ m : Nat, (m : Int) = (c - 128) + 128 * (m' : Int) := ⟨(c - 128).toNat + 128 * m', by omega⟩
          have hu : uv m = c :: uv m' := by
            rw [uv_big (by omega)]
            congr 1
            · omega
            · congr 1; omega
          refine ⟨m, ?_, ?_, by rw [hu, List.length_cons, h3]; omega, fun _ => by omega⟩
          · rw [hu]; exact Pre.cons' hlt hce.symm h1
          · rw [h2, pow_step, hm]
            generalize (128 : Int) ^ i = P
            rw [Int.add_mul, Int.mul_comm P 128, ← Int.mul_assoc, Int.mul_comm (m' : Int) 128, Int.add_assoc]
    · rw [if_neg hlt] at h; simp at h
theorem num_inv {bs : List Int} {a : Nat} (hb : Bytes bs) (h : (num bs a).2.2 = 0) : ∃ m : Nat, num bs a = ((m : Int), (uv m).length, 0) ∧ Pre bs a (uv m) ∧ m < 18446744073709551616 := by
  have hr := num_range bs a hb
  obtain ⟨⟨X, n, e⟩, hq⟩ : ∃ r, r = num bs a := ⟨_, rfl⟩
  rw [← hq] at h hr ⊢
  simp only at h hr
  subst h
  obtain ⟨m, h1, h2, h3, _⟩ := numR_inv bs a hb 10 0 0 X n hq.symm
  have h4 : X = (m : Int) := by rw [h2]; simp
  exact ⟨m, by rw [h4, h3]; simp, by simpa using h1, by omega⟩
theorem cnt_inv {bs : List Int} {a : Nat} {most : Int} (hb : Bytes bs) (h : (cnt bs a most).2.2 = 0) : ∃ m : Nat, cnt bs a most = ((m : Int), (uv m).length, 0) ∧ Pre bs a (uv m) ∧ (m : Int) ≤ most ∧ m < 18446744073709551616 := by
  unfold cnt at h ⊢
  by_cases h0 : (num bs a).2.2 = 0
  · rw [if_pos h0] at h ⊢
    obtain ⟨m, h1, h2, h3⟩ := num_inv hb h0
    rw [h1] at h ⊢
    simp only at h ⊢
    by_cases hx : (m : Int) > most
    · rw [if_pos hx] at h; simp at h
    · rw [if_neg hx]; exact ⟨m, rfl, h2, by omega, h3⟩
  · rw [if_neg h0] at h; exact absurd h h0
theorem countR_inv {bs : List Int} {a : Nat} {most e : Int} (hb : Bytes bs) (h : (countR bs a most e).2.2 = 0) : e = 0 ∧ ∃ m : Nat, countR bs a most e = ((m : Int), a + (uv m).length, 0) ∧ Pre bs a (uv m) ∧ (m : Int) ≤ most := by
  unfold countR rdNum at h ⊢
  by_cases he : e = 0
  · rw [if_neg (by simpa using he)] at h ⊢
    by_cases h0 : (cnt bs a most).2.2 = 0
    · rw [if_pos h0]
      obtain ⟨m, h1, h2, h3, _⟩ := cnt_inv hb h0
      exact ⟨he, m, by rw [h1], h2, h3⟩
    · rw [if_neg h0] at h; exact absurd h h0
  · rw [if_pos he] at h; exact absurd h he
theorem rawR_inv {bs : List Int} {a n : Nat} {e : Int} (h : (rawR bs a n e).2.2 = 0) : e = 0 ∧ ∃ ys, rawR bs a n e = (ys, a + n, 0) ∧ ys.length = n ∧ Pre bs a ys := by
  unfold rawR at h ⊢
  by_cases he : e = 0
  · rw [if_neg (by simpa using he)] at h ⊢
    by_cases h0 : a + n ≤ bs.length
    · rw [if_pos h0]
      exact ⟨he, _, rfl, by rw [List.length_take, List.length_drop]; omega, (bs.drop a).drop n, (List.take_append_drop n _).symm⟩
    · rw [if_neg h0] at h; simp at h
  · rw [if_pos he] at h; exact absurd h he
/-- A text's form. -/
def tf (t : List Int) : List Int := uv t.length ++ t
theorem textR_inv {bs : List Int} {a : Nat} {most e : Int} (hb : Bytes bs) (h : (textR bs a most e).2.2 = 0) : e = 0 ∧ ∃ t, textR bs a most e = (t, a + (tf t).length, 0) ∧ Pre bs a (tf t) ∧ (t.length : Int) ≤ most ∧ Bytes t := by
  unfold textR txt at h ⊢
  by_cases he : e = 0
  · rw [if_neg (by simpa using he)] at h ⊢
    by_cases h0 : (cnt bs a most).2.2 = 0
    · rw [if_pos h0] at h ⊢
      obtain ⟨m, h1, h2, h3, _⟩ := cnt_inv hb h0
      rw [h1] at h ⊢
      simp only [Int.toNat_natCast] at h ⊢
      by_cases h4 : a + (uv m).length + m ≤ bs.length
      · rw [if_pos h4]
        have hl : ((bs.drop (a + (uv m).length)).take m).length = m := by rw [List.length_take, List.length_drop]; omega
        refine ⟨he, _, ?_, ?_, by rw [hl]; exact h3, bytes_take (bytes_drop hb _) _⟩
        · unfold tf
          rw [List.length_append, hl, Nat.add_assoc]
        · unfold tf
          rw [hl]
          exact h2.join ⟨(bs.drop (a + (uv m).length)).drop m, (List.take_append_drop m _).symm⟩
      · rw [if_neg h4] at h; simp at h
    · rw [if_neg h0] at h; exact absurd h h0
  · rw [if_pos he] at h; exact absurd h he
theorem texts_inv {bs : List Int} (hb : Bytes bs) : ∀ (k a : Nat) (e : Int) (acc : List ByteArray), (texts bs k a e acc).2.2 = 0 → e = 0 ∧ ∃ ls : List (List Int), ls.length = k ∧ texts bs k a e acc = (acc ++ ls.map strOfNums, a + (ls.flatMap tf).length, 0) ∧ Pre bs a (ls.flatMap tf) ∧ ∀ t ∈ ls, t.length ≤ 4096 ∧ Bytes t := by
  intro k
  induction k with
  | zero =>
    intro a e acc h
    have h' : e = 0 := h
    exact ⟨h', [], rfl, by simp [texts, h'], Pre.nil _ _, fun t ht => by cases ht⟩
  | succ k ih =>
    intro a e acc h
    simp only [texts] at h ⊢
    by_cases he : e = 0
    · rw [if_neg (by simpa using he)] at h ⊢
      obtain ⟨h1, ls, h2, h3, h4, h5⟩ := ih _ _ _ h
      obtain ⟨_, t, h6, h7, h8, h9⟩ := textR_inv hb h1
      rw [h3]
      rw [h6] at h4 ⊢
      simp only at h4 ⊢
      refine ⟨he, t :: ls, by rw [List.length_cons, h2], ?_, ?_, ?_⟩
      · rw [List.map_cons, List.flatMap_cons, List.length_append, List.append_assoc, Nat.add_assoc]
        rfl
      · rw [List.flatMap_cons]
        exact h7.join h4
      · intro s hs
        rcases List.mem_cons.1 hs with rfl | hs
        · exact ⟨by omega, h9⟩
        · exact h5 s hs
    · rw [if_pos he] at h; exact absurd h he

/-- A text's bytes. -/
def nb (t : ByteArray) : List Int := t.data.toList.map fun x => (x.toNat : Int)
theorem nb_str {l : List Int} (hb : Bytes l) : nb (strOfNums l) = l := by
  unfold nb
  rw [strOfNums_data, List.map_map]
  conv => rhs; rw [← List.map_id l]
  refine List.map_congr_left (fun x hx => ?_)
  have h := hb x hx
  simp only [Function.comp_apply, UInt8.toNat_ofNat', id_eq]
  omega
/-- The bytes behind a parcel's mark, sum and digest. -/
def tF (s : ByteArray) : List Int := uv s.size ++ nb s
def rest (i : List Int) (o : List ByteArray) : List Int := uv i.length ++ i ++ uv o.length ++ o.flatMap tF
theorem flat_str : ∀ (ls : List (List Int)), (∀ t ∈ ls, t.length ≤ 4096 ∧ Bytes t) → (ls.map strOfNums).flatMap tF = ls.flatMap tf := by
  intro ls
  induction ls with
  | nil => intro _; rfl
  | cons t ls ih =>
    intro h
    rw [List.map_cons, List.flatMap_cons, List.flatMap_cons, ih (fun s hs => h s (List.mem_cons_of_mem _ hs))]
    congr 1
    unfold tF tf
    rw [strOfNums_size, nb_str (h t (List.mem_cons_self ..)).2]
def Fits (i : List Int) (o : List ByteArray) : Prop := i.length ≤ 67108864 ∧ o.length ≤ 1048576 ∧ ∀ s ∈ o, s.size ≤ 4096
theorem body_inv {bs : List Int} (hb : Bytes bs) (h : (body bs 0).2.2 = 0) : rest (body bs 0).1 (body bs 0).2.1 = bs ∧ Fits (body bs 0).1 (body bs 0).2.1 := by
  unfold body at h ⊢
  by_cases he : en bs 0 = 0
  · rw [if_neg (by simpa using he)] at h ⊢
    simp only at h ⊢
    have h1 : (tx bs 0).2.2 = 0 ∧ bs.length ≤ (tx bs 0).2.1 := by
      unfold en endR at he
      split at he
      · simp at he
      · rename_i hn
        exact ⟨he, by rcases Nat.lt_or_ge (tx bs 0).2.1 bs.length with h2 | h2; exact absurd ⟨he, h2⟩ hn; exact h2⟩
    obtain ⟨hk, ls, hl, ht, hp3, hin⟩ := texts_inv hb _ _ _ _ h1.1
    have ht' : tx bs 0 = ([] ++ ls.map strOfNums, (kn bs 0).2.1 + (ls.flatMap tf).length, 0) := ht
    obtain ⟨hi, k, hke, hp2, hkm⟩ := countR_inv hb hk
    have hke' : kn bs 0 = ((k : Int), (im bs 0).2.1 + (uv k).length, 0) := hke
    obtain ⟨hc, ys, hie, hyl, hp1⟩ := rawR_inv hi
    have hie' : im bs 0 = (ys, (cn bs 0).2.1 + (cn bs 0).1.toNat, 0) := hie
    obtain ⟨_, m, hce, hp0, hcm⟩ := countR_inv hb hc
    have hce' : cn bs 0 = ((m : Int), 0 + (uv m).length, 0) := hce
    rw [hke'] at ht' hp3 hl
    rw [hie'] at ht' hp3 hp2 hke'
    rw [hce'] at ht' hp3 hp2 hp1 hie' hyl
    simp only [Int.toNat_natCast] at ht' hp3 hp2 hp1 hie' hyl hl
    rw [ht'] at h1 ⊢
    rw [hie']
    simp only [List.nil_append] at h1 ⊢
    have hP : Pre bs 0 (uv m ++ ys ++ uv k ++ ls.flatMap tf) := by
      refine ((hp0.join ?_).join ?_).join ?_
      · exact hp1
      · rw [List.length_append, hyl]; simpa [Nat.add_assoc] using hp2
      · rw [List.length_append, List.length_append, hyl]; simpa [Nat.add_assoc] using hp3
    refine ⟨?_, by rw [hyl]; omega, by rw [List.length_map, hl]; omega, fun s hs => ?_⟩
    · unfold rest
      rw [List.length_map, hl, hyl, flat_str ls hin]
      obtain ⟨r, hr⟩ := hP
      rw [List.drop_zero] at hr
      have hr0 : r = [] := by
        refine List.eq_nil_of_length_eq_zero ?_
        have h2 := congrArg List.length hr
        simp only [List.length_append] at h2
        omega
      rw [hr, hr0, List.append_nil]
    · obtain ⟨t, ht, rfl⟩ := List.mem_map.1 hs
      rw [strOfNums_size]
      exact (hin t ht).1
  · rw [if_pos he] at h; exact absurd h he

theorem hd_zero {b : List Int} (h : hd b = 0) : 44 ≤ b.length ∧ b.take 4 = ptr4 ∧ (b.drop 4).take 8 = pw (tot (b.drop 12)) 8 ∧ (b.drop 12).take 32 = sumOf (b.drop 44) := by
  unfold hd at h
  split at h
  · simp at h
  split at h
  · simp at h
  split at h
  · simp at h
  split at h
  · simp at h
  split at h
  · simp at h
  split at h
  · simp at h
  rename_i h1 h2 h3 h4 h5 h6
  exact ⟨by omega, by simpa using h2, by simpa using h4, by simpa using h6⟩
theorem seal_of {b : List Int} (h : hd b = 0) : seal_ (b.drop 44) = b := by
  obtain ⟨h1, h2, h3, h4⟩ := hd_zero h
  have e1 : signed (b.drop 44) = b.drop 12 := by
    unfold signed
    rw [← h4]
    have := List.take_append_drop 32 (b.drop 12)
    rwa [List.drop_drop] at this
  unfold seal_
  rw [e1, ← h2, ← h3]
  have e2 := List.take_append_drop 8 (b.drop 4)
  rw [List.drop_drop] at e2
  rw [List.append_assoc, e2, List.take_append_drop]
theorem opn_inv {b : List Int} (hb : Bytes b) (h : (opn b).2.2 = 0) : seal_ (rest (opn b).1 (opn b).2.1) = b ∧ Fits (opn b).1 (opn b).2.1 := by
  unfold opn at h ⊢
  by_cases hh : hd b = 0
  · rw [if_neg (by simpa using hh)] at h ⊢
    rw [body_drop b 44 (hd_zero hh).1] at h ⊢
    obtain ⟨h1, h2⟩ := body_inv (bytes_drop hb 44) h
    rw [h1]
    exact ⟨seal_of hh, h2⟩
  · rw [if_pos hh] at h; exact absurd h hh

/-! Errors. -/
def Er (e : Int) : Prop := e = 0 ∨ (2 ≤ e ∧ e ≤ 5)
theorem numR_er (bs : List Int) (a : Nat) : ∀ (d i : Nat) (x : Int), Er (numR bs a d i x).2.2 := by
  intro d
  induction d with
  | zero => intro i x; exact .inr ⟨by simp [numR], by simp [numR]⟩
  | succ d ih =>
    intro i x
    simp only [numR]
    split
    · split
      · exact .inr ⟨by simp, by simp⟩
      · split
        · exact .inl rfl
        · exact ih _ _
    · exact .inr ⟨by simp, by simp⟩
theorem cnt_er (bs : List Int) (a : Nat) (most : Int) : Er (cnt bs a most).2.2 := by
  have h := numR_er bs a 10 0 0
  unfold cnt
  split
  · split
    · exact .inr ⟨by simp, by simp⟩
    · exact h
  · exact h
theorem countR_er (bs : List Int) (a : Nat) (most e : Int) (h : Er e) : Er (countR bs a most e).2.2 := by
  unfold countR rdNum
  split
  · exact h
  · split
    · exact .inl rfl
    · exact cnt_er bs a most
theorem rawR_er (bs : List Int) (a n : Nat) (e : Int) (h : Er e) : Er (rawR bs a n e).2.2 := by
  unfold rawR
  split
  · exact h
  · split
    · exact .inl rfl
    · exact .inr ⟨by simp, by simp⟩
theorem textR_er (bs : List Int) (a : Nat) (most e : Int) (h : Er e) : Er (textR bs a most e).2.2 := by
  unfold textR txt
  split
  · exact h
  · split
    · split
      · exact .inl rfl
      · exact .inr ⟨by simp, by simp⟩
    · exact cnt_er bs a most
theorem texts_er (bs : List Int) : ∀ (k a : Nat) (e : Int) (acc : List ByteArray), Er e → Er (texts bs k a e acc).2.2 := by
  intro k
  induction k with
  | zero => intro a e acc h; exact h
  | succ k ih =>
    intro a e acc h
    simp only [texts]
    split
    · exact h
    · exact ih _ _ _ (textR_er _ _ _ _ h)
theorem body_er (bs : List Int) (a : Nat) (h : (body bs a).2.2 ≠ 0) : (body bs a).1 = [] ∧ (body bs a).2.1 = [] ∧ 2 ≤ (body bs a).2.2 ∧ (body bs a).2.2 ≤ 5 := by
  have h1 : Er (tx bs a).2.2 := texts_er _ _ _ _ _ (countR_er _ _ _ _ (rawR_er _ _ _ _ (countR_er _ _ _ _ (.inl rfl))))
  have h2 : Er (en bs a) := by
    unfold en endR
    split
    · exact .inr ⟨by simp, by simp⟩
    · exact h1
  unfold body at h ⊢
  split
  · rename_i h3
    rcases h2 with h2 | h2
    · exact absurd h2 h3
    · exact ⟨rfl, rfl, h2.1, h2.2⟩
  · rename_i h3
    rw [if_neg h3] at h
    exact absurd rfl h
theorem opn_er (b : List Int) (h : (opn b).2.2 ≠ 0) : (opn b).1 = [] ∧ (opn b).2.1 = [] ∧ 2 ≤ (opn b).2.2 ∧ (opn b).2.2 ≤ 5 := by
  unfold opn at h ⊢
  by_cases hh : hd b = 0
  · rw [if_neg (by simpa using hh)] at h ⊢
    exact body_er b 44 h
  · rw [if_pos hh] at h ⊢
    have h2 : hd b = 2 ∨ hd b = 4 ∨ hd b = 0 := by
      unfold hd
      repeat' split
      all_goals simp
    exact ⟨rfl, rfl, by show 2 ≤ hd b; omega, by show hd b ≤ 5; omega⟩

/-! What is sealed is taken. -/
theorem hd_seal (x : List Int) : hd (seal_ x) = 0 := by
  have hl := seal_length x
  have hp : ptr4.length = 4 := rfl
  have hw : (pw (tot (signed x)) 8).length = 8 := pw_length _ 8
  have hs : (sumOf x).length = 32 := dig_length _ 32
  have t4 : (seal_ x).take 4 = ptr4 := by unfold seal_; rw [List.append_assoc, ← hp, List.take_left]
  have d4 : (seal_ x).drop 4 = pw (tot (signed x)) 8 ++ signed x := by unfold seal_; rw [List.append_assoc, ← hp, List.drop_left]
  have d12 : (seal_ x).drop 12 = signed x := by
    rw [show 12 = 4 + 8 by rfl, ← List.drop_drop, d4]
    have := List.drop_left (l₁ := pw (tot (signed x)) 8) (l₂ := signed x)
    rwa [hw] at this
  have d44 : (seal_ x).drop 44 = x := by
    rw [show 44 = 12 + 32 by rfl, ← List.drop_drop, d12]
    unfold signed
    rw [← hs, List.drop_left]
  unfold hd
  rw [if_neg (by omega), t4, if_neg (by simp), if_neg (by omega), d12, d4]
  have e1 : (pw (tot (signed x)) 8 ++ signed x).take 8 = pw (tot (signed x)) 8 := by
    have := List.take_left (l₁ := pw (tot (signed x)) 8) (l₂ := signed x)
    rwa [hw] at this
  have e2 : (signed x).take 32 = sumOf x := by
    unfold signed
    have := List.take_left (l₁ := sumOf x) (l₂ := x)
    rwa [hs] at this
  rw [e1, if_neg (by simp), if_neg (by omega), d44, e2, if_neg (by simp)]
theorem opn_seal (x : List Int) : opn (seal_ x) = body x 0 := by
  have hl := seal_length x
  unfold opn
  rw [if_neg (by simpa using hd_seal x), body_drop _ 44 (by omega)]
  have hs : (sumOf x).length = 32 := dig_length _ 32
  have d44 : (seal_ x).drop 44 = x := by
    unfold seal_ signed
    have h : (ptr4 ++ pw (tot (sumOf x ++ x)) 8 ++ (sumOf x ++ x)) = (ptr4 ++ pw (tot (sumOf x ++ x)) 8 ++ sumOf x) ++ x := by simp [List.append_assoc]
    have h2 : (ptr4 ++ pw (tot (sumOf x ++ x)) 8 ++ sumOf x).length = 44 := by rw [List.length_append, List.length_append, pw_length, hs]; rfl
    rw [h, ← h2, List.drop_left]
  rw [d44]
end Go.Proofs.Ytcgajjaaiablkaa.ROneP
