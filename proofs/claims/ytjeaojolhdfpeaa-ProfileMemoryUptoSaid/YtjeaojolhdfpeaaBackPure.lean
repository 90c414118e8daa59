/- What was encoded is read back; what is cut off is short; what goes on is long. Plain lists and numbers. -/
import Derived.Test.YtjeaojolhdfpeaaDecodeS
import Derived.Test.YtjeaojolhdfpeaaFormRef
namespace Go.Proofs.Ytjeaojolhdfpeaa.BackPure
open Go.RowKit Go.Proofs.YtjeaojolhdfpeaaW.PrintWords Go.Proofs.YtjeaojolhdfpeaaW.PrintMore
open Go.Proofs.Ytjeaojolhdfpeaa.PProfileMemory Go.Proofs.Ytjeaojolhdfpeaa.Reader Go.Proofs.Ytjeaojolhdfpeaa.Methods Go.Proofs.Ytjeaojolhdfpeaa.SpotOf Go.Proofs.Ytjeaojolhdfpeaa.Decode Go.Proofs.Ytjeaojolhdfpeaa.DecodeS
open Go.Proofs.Ytjeaojolhdfpeaa.Form (uv uv_small uv_big partB spotForm rowForm headForm form foldZ flagsOf Rg okProf many)
set_option linter.unusedVariables false
set_option linter.unusedSimpArgs false

/-- xs stands in bs from a on. -/
def Pre (bs : List Int) (a : Nat) (xs : List Int) : Prop := ∃ r, bs.drop a = xs ++ r
/-- bs ends within xs, which stands from a on. -/
def Cut (bs : List Int) (a : Nat) (xs : List Int) : Prop := ∃ r, r ≠ [] ∧ xs = bs.drop a ++ r
theorem Pre.app {bs xs ys : List Int} {a : Nat} (h : Pre bs a (xs ++ ys)) : Pre bs a xs ∧ Pre bs (a + xs.length) ys := by
  obtain ⟨r, h⟩ := h
  refine ⟨⟨ys ++ r, by rw [h, List.append_assoc]⟩, r, ?_⟩
  rw [← List.drop_drop, h, List.append_assoc, List.drop_left]
theorem Pre.cons {bs xs : List Int} {c : Int} {a : Nat} (h : Pre bs a (c :: xs)) : a < bs.length ∧ rd bs (a : Int) = c ∧ Pre bs (a + 1) xs := by
  obtain ⟨r, h⟩ := h
  have hlt : a < bs.length := by
    rcases Nat.lt_or_ge a bs.length with h1 | h1
    · exact h1
    · rw [List.drop_eq_nil_of_le h1] at h; cases h
  have h2 := List.drop_eq_getElem_cons hlt
  rw [h2] at h
  injection h with h3 h4
  refine ⟨hlt, ?_, r, h4⟩
  simpa [rd, List.getD_eq_getElem?_getD, List.getElem?_eq_getElem hlt] using h3
theorem Cut.app {bs xs ys : List Int} {a : Nat} (h : Cut bs a (xs ++ ys)) : Cut bs a xs ∨ (Pre bs a xs ∧ Cut bs (a + xs.length) ys) := by
  obtain ⟨r, hr, h⟩ := h
  rcases Nat.lt_or_ge (bs.drop a).length xs.length with hl | hl
  · left
    have e := congrArg (List.take xs.length) h
    rw [List.take_left, List.take_append, List.take_of_length_le (by omega)] at e
    refine ⟨r.take (xs.length - (bs.drop a).length), fun hn => ?_, e⟩
    have := congrArg List.length e
    rw [hn] at this
    simp at this hl
    omega
  · right
    have e := congrArg (List.take xs.length) h
    rw [List.take_left, List.take_append_of_le_length hl] at e
    have e2 := congrArg (List.drop xs.length) h
    rw [List.drop_left, List.drop_append_of_le_length hl, List.drop_drop] at e2
    refine ⟨⟨(bs.drop a).drop xs.length, ?_⟩, r, hr, e2⟩
    conv => lhs; rw [← List.take_append_drop xs.length (bs.drop a)]
    rw [← e]
theorem Cut.cons {bs xs : List Int} {c : Int} {a : Nat} (h : Cut bs a (c :: xs)) : bs.length ≤ a ∨ (a < bs.length ∧ rd bs (a : Int) = c ∧ Cut bs (a + 1) xs) := by
  rcases Nat.lt_or_ge a bs.length with h1 | h1
  · right
    have h' : Cut bs a ([c] ++ xs) := h
    rcases h'.app with hc | ⟨hp, hc⟩
    · obtain ⟨r, hr, e⟩ := hc
      have := congrArg List.length e
      have h2 : 0 < r.length := List.length_pos_iff.2 hr
      simp at this
      omega
    · obtain ⟨h2, h3, _⟩ := hp.cons
      exact ⟨h2, h3, hc⟩
  · exact .inl h1
/-! Numbers. -/
theorem pow_step (i : Nat) : (128 : Int) ^ (i + 1) = 128 ^ i * 128 := Int.pow_succ ..
theorem pow_pos' (i : Nat) : (0 : Int) < 128 ^ i := Int.pow_pos (by decide)
theorem nine {m : Nat} {x : Int} (hx : 0 ≤ x) (h : x + (m : Int) * 128 ^ 9 < 18446744073709551616) : m ≤ 1 := by
  have : (128 : Int) ^ 9 = 9223372036854775808 := by decide
  rw [this] at h
  omega
theorem step_sum (m : Nat) (x : Int) (i : Nat) : x + ((m % 128 : Nat) : Int) * 128 ^ i + ((m / 128 : Nat) : Int) * 128 ^ (i + 1) = x + (m : Int) * 128 ^ i := by
  rw [pow_step, Int.mul_comm (128 ^ i) 128, ← Int.mul_assoc, Int.add_assoc, ← Int.add_mul]
  congr 2
  omega
theorem numR_at (bs : List Int) (a : Nat) : ∀ (d i m : Nat) (x : Int), i + d = 10 → 0 ≤ x → x + (m : Int) * 128 ^ i < 18446744073709551616 → (0 < i → 0 < m) → Pre bs (a + i) (uv m) → numR bs a d i x = (x + (m : Int) * 128 ^ i, i + (uv m).length, 0) := by
  intro d
  induction d with
  | zero =>
    intro i m x hid hx hb hm hp
    obtain rfl : i = 10 := by omega
    have h1 : (128 : Int) ^ 10 = 1180591620717411303424 := by decide
    rw [h1] at hb
    have := hm (by omega)
    omega
  | succ d ih =>
    intro i m x hid hx hb hm hp
    by_cases hs : m < 128
    · rw [uv_small hs] at hp ⊢
      obtain ⟨h1, h2, _⟩ := hp.cons
      simp only [numR]
      rw [if_pos h1, h2]
      have hbad : ¬ ((i = 9 ∧ (m : Int) ≠ 1) ∨ (0 < i ∧ (m : Int) = 0)) := by
        rintro (⟨rfl, h⟩ | ⟨h, h'⟩)
        · have := nine hx hb
          have := hm (by omega)
          omega
        · have := hm h
          omega
      rw [if_neg hbad, if_pos (by omega)]
      rfl
    · rw [uv_big (by omega)] at hp ⊢
      obtain ⟨h1, h2, h3⟩ := hp.cons
      simp only [numR]
      rw [if_pos h1, h2]
      have hbad : ¬ ((i = 9 ∧ ((m % 128 + 128 : Nat) : Int) ≠ 1) ∨ (0 < i ∧ ((m % 128 + 128 : Nat) : Int) = 0)) := by
        rintro (⟨rfl, h⟩ | ⟨h, h'⟩)
        · have := nine hx hb
          omega
        · omega
      have e1 : (((m % 128 + 128 : Nat) : Int) - 128) = ((m % 128 : Nat) : Int) := by omega
      have hnn : 0 ≤ ((m % 128 : Nat) : Int) * 128 ^ i := Int.mul_nonneg (by omega) (Int.le_of_lt (pow_pos' i))
      rw [if_neg hbad, if_neg (by omega), e1, ih (i + 1) (m / 128) _ (by omega) (by omega) (by rw [step_sum]; exact hb) (fun _ => by omega) h3, step_sum]
      have e2 : i + 1 + (uv (m / 128)).length = i + ((uv (m / 128)).length + 1) := by omega
      rw [List.length_cons, e2]
theorem num_at {bs : List Int} {a n : Nat} (hn : n < 18446744073709551616) (h : Pre bs a (uv n)) : num bs a = ((n : Int), (uv n).length, 0) := by
  have := numR_at bs a 10 0 n 0 rfl (by omega) (by simp; omega) (fun h => by omega) (by simpa using h)
  simpa [num] using this
theorem uintR_at {bs : List Int} {a n : Nat} (hn : n < 18446744073709551616) (h : Pre bs a (uv n)) : uintR bs a 0 = ((n : Int), a + (uv n).length, 0) := by
  simp [uintR, rdNum, num_at hn h]
theorem countR_at {bs : List Int} {a n m : Nat} (hn : n ≤ m) (hm : m < 18446744073709551616) (h : Pre bs a (uv n)) : countR bs a (m : Int) 0 = ((n : Int), a + (uv n).length, 0) := by
  have : ¬ ((n : Int) > (m : Int)) := by omega
  simp [countR, rdNum, cnt, num_at (by omega) h, this]
/-! Spots. -/
def part (n : Nat) : List Int := if n = 0 then [] else uv n
theorem step_at {bs : List Int} {fl : Int} {d n a : Nat} {s s' : S28} (hn : n < 18446744073709551616) (hb : fl / 2 ^ (3 - d) % 2 = 0 ↔ n = 0) (h0 : n = 0 → s' = s) (h1 : n ≠ 0 → setF s (3 - d) (if d = 0 then Nums3.unzig (n : Int) else (n : Int)) = s' ∧ okSpot s' = true) (hp : Pre bs a (part n)) :
    fieldsR bs fl (d + 1) s a = fieldsR bs fl d s' (a + (part n).length) := by
  unfold part at hp ⊢
  by_cases h : n = 0
  · rw [if_pos h]
    simp only [fieldsR]
    rw [if_pos (hb.2 h), h0 h]
    rfl
  · rw [if_neg h] at hp ⊢
    obtain ⟨h2, h3⟩ := h1 h
    simp only [fieldsR]
    rw [if_neg (fun hh => h (hb.1 hh)), uintR_at hn hp]
    simp only
    rw [if_neg (by simp), if_neg (by omega), h2, if_pos h3]
theorem foldZ_zero (x : Int) : foldZ x = 0 ↔ x = 0 := by
  unfold foldZ
  split <;> omega
theorem unzig_fold (x : Int) : Nums3.unzig (foldZ x) = x := by
  unfold foldZ Nums3.unzig
  split <;> split <;> omega
theorem bit0 (s : S28) : flagsOf s / 2 ^ (3 - 3) % 2 = 0 ↔ s.f0 = 0 := by
  unfold flagsOf
  by_cases h0 : s.f0 = 0 <;> by_cases h1 : s.f1 = 0 <;> by_cases h2 : s.f2 = 0 <;> by_cases h3 : s.f3 = 0 <;> simp [h0, h1, h2, h3]
theorem bit1 (s : S28) : flagsOf s / 2 ^ (3 - 2) % 2 = 0 ↔ s.f1 = 0 := by
  unfold flagsOf
  by_cases h0 : s.f0 = 0 <;> by_cases h1 : s.f1 = 0 <;> by_cases h2 : s.f2 = 0 <;> by_cases h3 : s.f3 = 0 <;> simp [h0, h1, h2, h3]
theorem bit2 (s : S28) : flagsOf s / 2 ^ (3 - 1) % 2 = 0 ↔ s.f2 = 0 := by
  unfold flagsOf
  by_cases h0 : s.f0 = 0 <;> by_cases h1 : s.f1 = 0 <;> by_cases h2 : s.f2 = 0 <;> by_cases h3 : s.f3 = 0 <;> simp [h0, h1, h2, h3]
theorem bit3 (s : S28) : flagsOf s / 2 ^ (3 - 0) % 2 = 0 ↔ s.f3 = 0 := by
  unfold flagsOf
  by_cases h0 : s.f0 = 0 <;> by_cases h1 : s.f1 = 0 <;> by_cases h2 : s.f2 = 0 <;> by_cases h3 : s.f3 = 0 <;> simp [h0, h1, h2, h3]
theorem flags_le (s : S28) : 0 ≤ flagsOf s ∧ flagsOf s ≤ 15 := by
  unfold flagsOf
  repeat' split
  all_goals omega
/-- A spot that is taken. -/
def Good (s : S28) : Prop := okSpot s = true ∧ Rg s
theorem good_unfold {s : S28} (h : Good s) : (0 ≤ s.f0 ∧ s.f0 ≤ 9223372036854775807) ∧ (0 ≤ s.f1 ∧ s.f1 ≤ 1023) ∧ (0 ≤ s.f2 ∧ s.f2 ≤ 1023) ∧ (-1 ≤ s.f3 ∧ s.f3 ≤ 128) := by
  obtain ⟨h1, h2⟩ := h
  simp only [okSpot, Bool.and_eq_true, decide_eq_true_eq] at h1
  unfold Rg at h2
  omega
theorem form_parts {s : S28} (h : Good s) : spotForm s = flagsOf s :: (part s.f0.toNat ++ (part s.f1.toNat ++ (part s.f2.toNat ++ part (foldZ s.f3).toNat))) := by
  have hg := good_unfold h
  have e0 : partB s.f0 = part s.f0.toNat := by
    unfold partB part
    have : s.f0 = 0 ↔ s.f0.toNat = 0 := by omega
    simp only [this]
  have e1 : partB s.f1 = part s.f1.toNat := by
    unfold partB part
    have : s.f1 = 0 ↔ s.f1.toNat = 0 := by omega
    simp only [this]
  have e2 : partB s.f2 = part s.f2.toNat := by
    unfold partB part
    have : s.f2 = 0 ↔ s.f2.toNat = 0 := by omega
    simp only [this]
  have hf : 0 ≤ foldZ s.f3 := by unfold foldZ; split <;> omega
  have e3 : (if s.f3 = 0 then ([] : List Int) else uv (foldZ s.f3).toNat) = part (foldZ s.f3).toNat := by
    unfold part
    have : s.f3 = 0 ↔ (foldZ s.f3).toNat = 0 := by rw [← foldZ_zero]; omega
    simp only [this]
  unfold spotForm
  rw [e0, e1, e2, e3]
  simp [List.append_assoc]
theorem ok_part {s : S28} (h : Good s) (a b c d : Int) (h0 : a = s.f0 ∨ a = 0) (h1 : b = s.f1 ∨ b = 0) (h2 : c = s.f2 ∨ c = 0) (h3 : d = s.f3 ∨ d = 0) : okSpot ⟨a, b, c, d⟩ = true := by
  have hg := good_unfold h
  simp only [okSpot, Bool.and_eq_true, decide_eq_true_eq]
  omega
theorem ways {s : S28} (h : Good s) : (∀ bs a, Pre bs a (part s.f0.toNat) → fieldsR bs (flagsOf s) 4 SpotOf.z28 a = fieldsR bs (flagsOf s) 3 ⟨s.f0, 0, 0, 0⟩ (a + (part s.f0.toNat).length)) ∧
    (∀ bs a, Pre bs a (part s.f1.toNat) → fieldsR bs (flagsOf s) 3 ⟨s.f0, 0, 0, 0⟩ a = fieldsR bs (flagsOf s) 2 ⟨s.f0, s.f1, 0, 0⟩ (a + (part s.f1.toNat).length)) ∧
    (∀ bs a, Pre bs a (part s.f2.toNat) → fieldsR bs (flagsOf s) 2 ⟨s.f0, s.f1, 0, 0⟩ a = fieldsR bs (flagsOf s) 1 ⟨s.f0, s.f1, s.f2, 0⟩ (a + (part s.f2.toNat).length)) ∧
    (∀ bs a, Pre bs a (part (foldZ s.f3).toNat) → fieldsR bs (flagsOf s) 1 ⟨s.f0, s.f1, s.f2, 0⟩ a = (0, s, a + (part (foldZ s.f3).toNat).length)) := by
  have hg := good_unfold h
  have hf : 0 ≤ foldZ s.f3 ∧ foldZ s.f3 < 18446744073709551616 := by unfold foldZ; split <;> omega
  have c0 : ((s.f0.toNat : Nat) : Int) = s.f0 := by omega
  have c1 : ((s.f1.toNat : Nat) : Int) = s.f1 := by omega
  have c2 : ((s.f2.toNat : Nat) : Int) = s.f2 := by omega
  have c3 : (((foldZ s.f3).toNat : Nat) : Int) = foldZ s.f3 := by omega
  refine ⟨fun bs a hp => ?_, fun bs a hp => ?_, fun bs a hp => ?_, fun bs a hp => ?_⟩
  · refine step_at (by omega) ((bit0 s).trans (by omega)) (fun h0 => ?_) (fun h0 => ⟨?_, ok_part h _ _ _ _ (.inl rfl) (.inr rfl) (.inr rfl) (.inr rfl)⟩) hp
    · have : s.f0 = 0 := by omega
      rw [this]; rfl
    · rw [if_neg (by decide), c0]
      simp only [setF, SpotOf.z28]
      congr 1
      unfold wrap64; omega
  · refine step_at (by omega) ((bit1 s).trans (by omega)) (fun h0 => ?_) (fun h0 => ⟨?_, ok_part h _ _ _ _ (.inl rfl) (.inl rfl) (.inr rfl) (.inr rfl)⟩) hp
    · have : s.f1 = 0 := by omega
      rw [this]
    · rw [if_neg (by decide), c1]
      simp only [setF]
      rw [if_neg (by omega)]
  · refine step_at (by omega) ((bit2 s).trans (by omega)) (fun h0 => ?_) (fun h0 => ⟨?_, ok_part h _ _ _ _ (.inl rfl) (.inl rfl) (.inl rfl) (.inr rfl)⟩) hp
    · have : s.f2 = 0 := by omega
      rw [this]
    · rw [if_neg (by decide), c2]
      simp only [setF]
      rw [if_neg (by omega)]
  · have e := step_at (d := 0) (s := ⟨s.f0, s.f1, s.f2, 0⟩) (s' := s) (n := (foldZ s.f3).toNat) (bs := bs) (fl := flagsOf s) (a := a) (by omega) ((bit3 s).trans (by rw [← foldZ_zero]; omega)) (fun h0 => ?_) (fun h0 => ⟨?_, h.1⟩) hp
    · exact e
    · have : s.f3 = 0 := by rw [← foldZ_zero]; omega
      cases s
      simp only at this
      rw [this]
    · rw [if_pos rfl, c3, unzig_fold]
      rfl
theorem spotR_at {bs : List Int} {a : Nat} {s : S28} (h : Good s) (hp : Pre bs a (spotForm s)) : spotR bs a = (0, s, a + (spotForm s).length) := by
  rw [form_parts h] at hp ⊢
  obtain ⟨h1, h2, h3⟩ := hp.cons
  obtain ⟨w0, w1, w2, w3⟩ := ways h
  obtain ⟨p0, q0⟩ := h3.app
  obtain ⟨p1, q1⟩ := q0.app
  obtain ⟨p2, q2⟩ := q1.app
  unfold spotR
  rw [if_pos h1, h2, if_neg (by have := flags_le s; omega), w0 _ _ p0, w1 _ _ p1, w2 _ _ p2, w3 _ _ q2]
  simp only [List.length_cons, List.length_append]
  congr 2
  omega
theorem spotsA_at {bs : List Int} : ∀ (x l : List S28) (a : Nat), (∀ s ∈ x, Good s) → Pre bs a (x.flatMap spotForm) → spotsA bs x.length l a = (0, l ++ x, a + (x.flatMap spotForm).length) := by
  intro x
  induction x with
  | nil => intro l a _ _; simp [spotsA]
  | cons s x ih =>
    intro l a hg hp
    rw [List.flatMap_cons] at hp ⊢
    obtain ⟨p, q⟩ := hp.app
    simp only [List.length_cons, spotsA]
    rw [spotR_at (hg s (by simp)) p]
    simp only
    rw [if_neg (by simp), ih _ _ (fun t ht => hg t (by simp [ht])) q]
    simp only [List.append_assoc, List.singleton_append, List.length_append]
    congr 2
    omega
theorem rowsA_at {bs : List Int} : ∀ (l acc : List (List S28)) (a : Nat), (∀ x ∈ l, x.length ≤ 2000) → (∀ x ∈ l, ∀ s ∈ x, Good s) → Pre bs a (l.flatMap rowForm) → rowsA bs l.length acc a 0 = (0, acc ++ l, a + (l.flatMap rowForm).length, 0) := by
  intro l
  induction l with
  | nil => intro acc a _ _ _; simp [rowsA]
  | cons x l ih =>
    intro acc a hm hg hp
    rw [List.flatMap_cons] at hp ⊢
    obtain ⟨p, q⟩ := hp.app
    have p' : Pre bs a (uv x.length ++ x.flatMap spotForm) := p
    obtain ⟨p1, p2⟩ := p'.app
    have hx := hm x (by simp)
    have hc : countR bs a 2000 0 = ((x.length : Int), a + (uv x.length).length, 0) := countR_at (m := 2000) hx (by omega) p1
    simp only [List.length_cons, rowsA, hc, Int.toNat_natCast]
    rw [spotsA_at x [] _ (hg x (by simp)) p2]
    simp only
    rw [if_neg (by simp)]
    have hl : a + (uv x.length).length + (x.flatMap spotForm).length = a + (rowForm x).length := by unfold rowForm; rw [List.length_append]; omega
    rw [hl, ih _ _ (fun y hy => hm y (by simp [hy])) (fun y hy => hg y (by simp [hy])) q]
    simp only [List.append_assoc, List.singleton_append, List.nil_append, List.length_append]
    congr 3
    omega
/-- A profile that is taken. -/
def GoodP (l : List (List S28)) : Prop := l.length ≤ 128 ∧ (∀ x ∈ l, x.length ≤ 2000) ∧ ∀ x ∈ l, ∀ s ∈ x, Good s
theorem form_tail (l : List (List S28)) : form l = magic ++ (uv l.length ++ l.flatMap rowForm) := by
  unfold form headForm magic
  rw [List.append_assoc]
theorem form_len (l : List (List S28)) : (form l).length = 4 + (uv l.length).length + (l.flatMap rowForm).length := by
  rw [form_tail]
  simp [magic]
  omega
/-- The bytes behind a form. -/
theorem dec_over {l : List (List S28)} (h : GoodP l) (r : List Int) : dec (form l ++ r) = if r = [] then (0, l) else (3, []) := by
  obtain ⟨h1, h2, h3⟩ := h
  have hl := form_len l
  have hlen : ¬ (form l ++ r).length < 4 := by rw [List.length_append]; omega
  have htk : (form l ++ r).take 4 = magic := by
    rw [form_tail, List.append_assoc, List.take_left' (by simp [magic])]
  have hp : Pre (form l ++ r) 4 (uv l.length ++ l.flatMap rowForm) := ⟨r, by
    rw [form_tail, List.append_assoc, List.drop_left' (by simp [magic])]⟩
  obtain ⟨p, q⟩ := hp.app
  have hc : countR (form l ++ r) 4 128 0 = ((l.length : Int), 4 + (uv l.length).length, 0) := countR_at (m := 128) h1 (by omega) p
  rw [dec_fin _ hlen htk, hc]
  simp only [Int.toNat_natCast]
  rw [rowsA_at l [] _ h2 h3 q]
  unfold fin
  simp only
  rw [if_neg (by simp), if_neg (by simp)]
  by_cases hr : r = []
  · rw [if_pos hr, if_neg (by rw [hr, List.length_append, hl]; simp), List.nil_append]
  · have := List.length_pos_iff.2 hr
    rw [if_neg hr, if_pos (by rw [List.length_append, hl]; omega)]
theorem dec_form_ {l : List (List S28)} (h : GoodP l) : dec (form l) = (0, l) := by
  have := dec_over h []
  rwa [List.append_nil, if_pos rfl] at this
end Go.Proofs.Ytjeaojolhdfpeaa.BackPure
