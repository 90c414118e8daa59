/- Relay: plain laws: sums, words, what stands ahead of a parcel, what a parcel holds. -/
import Derived.Test.YtcgajjaaiablkaaRText
import Derived.Test.YtcgajjaaiablkaaRWord
import Derived.Test.YtcgajjaaiablkaaRRaw
import Derived.Test.YtcgajjaaiablkaaRCount
import Derived.Test.YtcgajjaaiablkaaRefRd
import Derived.Test.YtcgajjaaiablkaaShaEnd
namespace Go.Proofs.Ytcgajjaaiablkaa.RHd
open Go.RowKit Go.Proofs.YtcgajjaaiablkaaW.PrintWords Go.Proofs.YtcgajjaaiablkaaW.PrintLast Go.Proofs.YtcgajjaaiablkaaW.PrintMore
open Go.Proofs.Ytcgajjaaiablkaa.PRelaySealed Go.Proofs.Ytcgajjaaiablkaa.Reader Go.Proofs.Ytcgajjaaiablkaa.RRaw Go.Proofs.Ytcgajjaaiablkaa.RCount Go.Proofs.Ytcgajjaaiablkaa.RText Go.Proofs.Ytcgajjaaiablkaa.RWord Go.Proofs.Ytcgajjaaiablkaa.RefRd Go.Proofs.Ytcgajjaaiablkaa.ShaEnd
set_option linter.unusedVariables false
set_option linter.unusedSimpArgs false

theorem rd_get (l : List Int) (i : Nat) (h : i < l.length) : rd l (i : Int) = l[i] := by simp [rd, List.getD_eq_getElem?_getD, List.getElem?_eq_getElem h]
theorem drop_rd (l : List Int) (i : Nat) (h : i < l.length) : l.drop i = rd l (i : Int) :: l.drop (i + 1) := by rw [rd_get l i h]; exact List.drop_eq_getElem_cons h
theorem rd_drop (l : List Int) (n i : Nat) : rd (l.drop n) (i : Int) = rd l ((n + i : Nat) : Int) := by
  simp [rd, List.getD_eq_getElem?_getD]
  congr 1
theorem w64 (i : Nat) (h : i < 9223372036854775807) : wrap64 ((i : Int) + 1) = ((i + 1 : Nat) : Int) := by unfold wrap64; omega

/-- The sum of all bytes. -/
def step (x c : Int) : Int := IntKind.u64.wrap (x + IntKind.u64.wrap c)
def tot (l : List Int) : Int := l.foldl step 0
theorem step_range (x c : Int) : 0 ≤ step x c ∧ step x c < 18446744073709551616 := by unfold step; rw [IntKind.wrap_u64]; omega
theorem fold_range (l : List Int) : ∀ x : Int, (0 ≤ x ∧ x < 18446744073709551616) → 0 ≤ l.foldl step x ∧ l.foldl step x < 18446744073709551616 := by
  induction l with
  | nil => exact fun x h => h
  | cons c l ih => exact fun x _ => ih _ (step_range x c)
theorem tot_range (l : List Int) : 0 ≤ tot l ∧ tot l < 18446744073709551616 := fold_range l 0 (by omega)
theorem sum_l0 (l : List Int) (hl : l.length ≤ 140737488355328) : ∀ (d i : Nat) (x : Int), i + d = l.length → relay_sum.l0 (d + 1) x l (l.length : Int) (i : Int) = some ((l.drop i).foldl step x) := by
  intro d
  induction d with
  | zero =>
    intro i x hi
    rw [relay_sum.l0, if_neg (by omega), List.drop_of_length_le (by omega)]
    rfl
  | succ d ih =>
    intro i x hi
    rw [relay_sum.l0, if_pos (by omega), if_pos (by omega), if_pos (by omega), w64 i (by omega), ih (i + 1) _ (by omega), drop_rd l i (by omega)]
    rfl
theorem sum_f (l : List Int) (hl : l.length ≤ 140737488355328) : relay_sum.f (l.length + 1) l = some (tot l) := by
  have := sum_l0 l hl l.length 0 0 (by omega)
  simpa [relay_sum.f, tot] using this
theorem same_l0 (l : List Int) (hl : l.length ≤ 140737488355328) : ∀ (d i : Nat), i + d = l.length → portageref0_SameBytes.l0 (d + 1) l l (i : Int) = some true := by
  intro d
  induction d with
  | zero =>
    intro i hi
    rw [portageref0_SameBytes.l0, if_neg (by omega)]
  | succ d ih =>
    intro i hi
    rw [portageref0_SameBytes.l0, if_pos (by omega), if_pos (by omega), if_pos (by omega), if_pos rfl, w64 i (by omega), ih (i + 1) (by omega)]
theorem same_f (l : List Int) (hl : l.length ≤ 140737488355328) : portageref0_SameBytes.f (l.length + 1) l l = some true := by
  have := same_l0 l hl l.length 0 (by omega)
  simpa [portageref0_SameBytes.f] using this
theorem sameT_l0 (l : List ByteArray) (hl : l.length ≤ 140737488355328) : ∀ (d i : Nat), i + d = l.length → portageref0_SameTexts.l0 (d + 1) l l (i : Int) = some true := by
  intro d
  induction d with
  | zero =>
    intro i hi
    rw [portageref0_SameTexts.l0, if_neg (by omega)]
  | succ d ih =>
    intro i hi
    rw [portageref0_SameTexts.l0, if_pos (by omega), if_pos (by omega), if_pos (by omega), if_pos rfl, w64 i (by omega), ih (i + 1) (by omega)]
theorem sameT_f (l : List ByteArray) (hl : l.length ≤ 140737488355328) : portageref0_SameTexts.f (l.length + 1) l l = some true := by
  have := sameT_l0 l hl l.length 0 (by omega)
  simpa [portageref0_SameTexts.f] using this

/-- A word's bytes. -/
def pw (s : Int) : Nat → List Int
  | 0 => []
  | i + 1 => pw s i ++ [s / 2 ^ (56 - 8 * i) % 256]
theorem pw_length (s : Int) : ∀ i, (pw s i).length = i
  | 0 => rfl
  | i + 1 => by rw [pw, List.length_append, pw_length s i]; rfl
set_option maxRecDepth 100000 in
theorem or_byte (X c : Int) (h0 : 0 ≤ X ∧ X < 72057594037927936) (hc : 0 ≤ c ∧ c < 256) : bits .or .u64 (IntKind.u64.wrap (X * 256)) (IntKind.u64.wrap c) = X * 256 + c := by
  obtain ⟨x, rfl⟩ := Int.eq_ofNat_of_zero_le h0.1
  obtain ⟨n, rfl⟩ := Int.eq_ofNat_of_zero_le hc.1
  rw [IntKind.wrap_u64, IntKind.wrap_u64, show ((x : Int) * 256) % 18446744073709551616 = ((x * 256 : Nat) : Int) by push_cast; omega, show ((n : Int) % 18446744073709551616) = (n : Int) by omega, u64_or_nat _ _ (by omega) (by omega)]
  have h2 : n < 2 ^ 8 := by omega
  rw [show x * 256 = 2 ^ 8 * x by omega, ← Nat.two_pow_add_eq_or_of_lt h2]
  push_cast
  omega
set_option maxRecDepth 100000 in
theorem wordN_succ (l : List Int) (hb : Bytes l) : ∀ i, i ≤ 8 → 0 ≤ wordN l i ∧ wordN l i < 256 ^ i ∧ (i < 8 → wordN l (i + 1) = wordN l i * 256 + rd l (i : Int)) := by
  have hlt : ∀ i, i < 8 → (256 : Int) ^ i ≤ 72057594037927936 := by
    intro i hi
    have : (256 : Nat) ^ i ≤ 256 ^ 7 := Nat.pow_le_pow_right (by decide) (by omega)
    have h2 : (256 : Nat) ^ 7 = 72057594037927936 := by decide
    rw [h2] at this
    have h3 : ((256 ^ i : Nat) : Int) = (256 : Int) ^ i := Int.natCast_pow 256 i
    rw [← h3]
    omega
  intro i
  induction i with
  | zero => intro _; refine ⟨Int.le_refl _, by simp [wordN], fun _ => ?_⟩; rw [wordN]; exact or_byte _ _ ⟨Int.le_refl _, by simp [wordN]⟩ (bytes_rd hb 0)
  | succ i ih =>
    intro hi
    obtain ⟨h0, h1, h2⟩ := ih (by omega)
    have hc := bytes_rd hb i
    have he : (256 : Int) ^ (i + 1) = 256 ^ i * 256 := Int.pow_succ ..
    have h3 := h2 (by omega)
    have a0 : 0 ≤ wordN l (i + 1) := by omega
    have a1 : wordN l (i + 1) < 256 ^ (i + 1) := by omega
    exact ⟨a0, a1, fun h => by rw [wordN]; exact or_byte _ _ ⟨a0, by have := hlt (i + 1) h; omega⟩ (bytes_rd hb (i + 1))⟩
theorem take_rd (l : List Int) (i : Nat) (h : i < l.length) : l.take (i + 1) = l.take i ++ [rd l (i : Int)] := by
  rw [List.take_add_one, rd_get l i h, List.getElem?_eq_getElem h]
  rfl
theorem word_at (l : List Int) (hb : Bytes l) (hl : l.length = 8) (s : Int) (hs : 0 ≤ s ∧ s < 18446744073709551616) : ∀ i, i ≤ 8 → (wordN l i = s / 2 ^ (64 - 8 * i) ↔ l.take i = pw s i) := by
  intro i
  induction i with
  | zero => intro _; simp only [wordN, pw, List.take_zero, iff_true]; omega
  | succ i ih =>
    intro hi
    have h := ih (by omega)
    have hc := bytes_rd hb i
    rw [(wordN_succ l hb i (by omega)).2.2 (by omega), take_rd l i (by omega), pw, show 64 - 8 * (i + 1) = 56 - 8 * i by omega]
    rw [show 64 - 8 * i = (56 - 8 * i) + 8 by omega, Int.pow_add, ← Int.ediv_ediv_of_nonneg (Int.le_of_lt (Int.pow_pos (by decide)))] at h
    rw [show (2 : Int) ^ 8 = 256 by decide] at h
    constructor
    · intro e
      have e1 : wordN l i = s / 2 ^ (56 - 8 * i) / 256 := by omega
      rw [h.mp e1]
      congr 2
      omega
    · intro e
      have e2 := List.append_inj e (by rw [List.length_take, pw_length]; omega)
      have e3 := h.mpr e2.1
      have e4 := (List.cons.inj e2.2).1
      omega
theorem word_iff (l : List Int) (hb : Bytes l) (hl : l.length = 8) (s : Int) (hs : 0 ≤ s ∧ s < 18446744073709551616) : wordN l 8 = s ↔ l = pw s 8 := by
  have := word_at l hb hl s hs 8 (by omega)
  rw [List.take_of_length_le (by omega)] at this
  simpa using this

/-- What stands ahead: the error. -/
def ptr4 : List Int := [80, 84, 82, 1]
def hd (b : List Int) : Int :=
  if b.length < 4 then 2 else if b.take 4 ≠ ptr4 then 4 else if b.length < 12 then 2
  else if (b.drop 4).take 8 ≠ pw (tot (b.drop 12)) 8 then 4 else if b.length < 44 then 2
  else if (b.drop 12).take 32 ≠ sumOf (b.drop 44) then 4 else 0
/-- The texts of a parcel. -/
def texts (bs : List Int) : Nat → Nat → Int → List ByteArray → List ByteArray × Nat × Int
  | 0, a, e, acc => (acc, a, e)
  | k + 1, a, e, acc => if e ≠ 0 then (acc, a, e) else texts bs k (textR bs a 4096 e).2.1 (textR bs a 4096 e).2.2 (acc ++ [strOfNums (textR bs a 4096 e).1])
def cn (bs : List Int) (a : Nat) : Int × Nat × Int := countR bs a 67108864 0
def im (bs : List Int) (a : Nat) : List Int × Nat × Int := rawR bs (cn bs a).2.1 (cn bs a).1.toNat (cn bs a).2.2
def kn (bs : List Int) (a : Nat) : Int × Nat × Int := countR bs (im bs a).2.1 1048576 (im bs a).2.2
def tx (bs : List Int) (a : Nat) : List ByteArray × Nat × Int := texts bs (kn bs a).1.toNat (kn bs a).2.1 (kn bs a).2.2 []
def en (bs : List Int) (a : Nat) : Int := endR bs (tx bs a).2.1 (tx bs a).2.2
/-- What a parcel holds behind what stands ahead. -/
def body (bs : List Int) (a : Nat) : List Int × List ByteArray × Int := if en bs a ≠ 0 then ([], [], en bs a) else ((im bs a).1, (tx bs a).1, 0)
/-- What a parcel holds. -/
def opn (b : List Int) : List Int × List ByteArray × Int := if hd b ≠ 0 then ([], [], hd b) else body b 44

theorem numR_drop (bs : List Int) (n a : Nat) (hn : n ≤ bs.length) : ∀ (d i : Nat) (x : Int), numR bs (n + a) d i x = numR (bs.drop n) a d i x := by
  intro d
  induction d with
  | zero => intro i x; rfl
  | succ d ih =>
    intro i x
    have h1 : rd bs ((n + a + i : Nat) : Int) = rd (bs.drop n) ((a + i : Nat) : Int) := by rw [rd_drop, Nat.add_assoc]
    have h2 : (n + a + i < bs.length) ↔ (a + i < (bs.drop n).length) := by rw [List.length_drop]; omega
    simp only [numR]
    rw [h1, ih]
    by_cases h : a + i < (bs.drop n).length
    · rw [if_pos h, if_pos (h2.mpr h)]
    · rw [if_neg h, if_neg (fun hh => h (h2.mp hh))]
theorem num_drop (bs : List Int) (n a : Nat) (hn : n ≤ bs.length) : num bs (n + a) = num (bs.drop n) a := numR_drop bs n a hn 10 0 0
theorem cnt_drop (bs : List Int) (n a : Nat) (most : Int) (hn : n ≤ bs.length) : cnt bs (n + a) most = cnt (bs.drop n) a most := by unfold cnt; rw [num_drop bs n a hn]
/-- A place, n further. -/
def up {α : Type} (n : Nat) (r : α × Nat × Int) : α × Nat × Int := (r.1, n + r.2.1, r.2.2)
theorem countR_drop (bs : List Int) (n a : Nat) (most e : Int) (hn : n ≤ bs.length) : countR bs (n + a) most e = up n (countR (bs.drop n) a most e) := by
  unfold countR rdNum up
  rw [cnt_drop bs n a most hn]
  split
  · rfl
  · split
    · simp only [Nat.add_assoc]
    · rfl
theorem rawR_drop (bs : List Int) (n a m : Nat) (e : Int) (hn : n ≤ bs.length) : rawR bs (n + a) m e = up n (rawR (bs.drop n) a m e) := by
  unfold rawR up
  rw [List.length_drop, List.drop_drop]
  split
  · rfl
  · by_cases h : a + m ≤ bs.length - n
    · rw [if_pos h, if_pos (by omega)]
      simp only [Nat.add_assoc]
    · rw [if_neg h, if_neg (by omega)]
theorem textR_drop (bs : List Int) (n a : Nat) (most e : Int) (hn : n ≤ bs.length) : textR bs (n + a) most e = up n (textR (bs.drop n) a most e) := by
  unfold textR txt up
  rw [List.length_drop, List.drop_drop, cnt_drop bs n a most hn]
  split
  · rfl
  · split
    · by_cases h : a + (cnt (bs.drop n) a most).2.1 + (cnt (bs.drop n) a most).1.toNat ≤ bs.length - n
      · rw [if_pos h, if_pos (by omega)]
        simp only [Nat.add_assoc]
      · rw [if_neg h, if_neg (by omega)]
    · rfl
theorem texts_drop (bs : List Int) (n : Nat) (hn : n ≤ bs.length) : ∀ (k a : Nat) (e : Int) (acc : List ByteArray), texts bs k (n + a) e acc = up n (texts (bs.drop n) k a e acc) := by
  intro k
  induction k with
  | zero => intro a e acc; rfl
  | succ k ih =>
    intro a e acc
    simp only [texts]
    split
    · rfl
    · rw [textR_drop bs n a 4096 e hn]
      exact ih _ _ _
theorem body_drop (bs : List Int) (n : Nat) (hn : n ≤ bs.length) : body bs n = body (bs.drop n) 0 := by
  have h1 : cn bs n = up n (cn (bs.drop n) 0) := countR_drop bs n 0 _ _ hn
  have h2 : im bs n = up n (im (bs.drop n) 0) := by unfold im; rw [h1]; exact rawR_drop bs n _ _ _ hn
  have h3 : kn bs n = up n (kn (bs.drop n) 0) := by unfold kn; rw [h2]; exact countR_drop bs n _ _ _ hn
  have h4 : tx bs n = up n (tx (bs.drop n) 0) := by unfold tx; rw [h3]; exact texts_drop bs n hn _ _ _ _
  have h5 : en bs n = en (bs.drop n) 0 := by
    unfold en endR; rw [h4]
    show (if _ ∧ n + (tx (bs.drop n) 0).2.1 < bs.length then _ else _) = _
    rw [List.length_drop]
    show (if (tx (bs.drop n) 0).2.2 = 0 ∧ n + (tx (bs.drop n) 0).2.1 < bs.length then (3 : Int) else (tx (bs.drop n) 0).2.2) = _
    congr 1
    refine propext ⟨fun h => ⟨h.1, by omega⟩, fun h => ⟨h.1, by omega⟩⟩
  unfold body
  rw [h5, h2, h4]
  rfl

theorem countR_at (bs : List Int) (a : Nat) (most e : Int) (hb : Bytes bs) (ha : a ≤ bs.length) (hm : 0 ≤ most) : (countR bs a most e).2.1 ≤ bs.length ∧ 0 ≤ (countR bs a most e).1 ∧ (countR bs a most e).1 ≤ most := by
  have h := cnt_range bs a most hb hm
  unfold countR rdNum
  split
  · exact ⟨ha, Int.le_refl _, hm⟩
  · split
    · rename_i h0
      exact ⟨h.2.2 h0, h.1, h.2.1⟩
    · exact ⟨ha, Int.le_refl _, hm⟩
theorem rawR_at (bs : List Int) (a n : Nat) (e : Int) (ha : a ≤ bs.length) : (rawR bs a n e).2.1 ≤ bs.length ∧ (rawR bs a n e).1.length ≤ bs.length := by
  unfold rawR
  split
  · exact ⟨ha, by simp⟩
  · split
    · rename_i h
      exact ⟨h, by simp; omega⟩
    · exact ⟨ha, by simp⟩
theorem textR_at (bs : List Int) (a : Nat) (most e : Int) (hb : Bytes bs) (ha : a ≤ bs.length) (hm : 0 ≤ most) : (textR bs a most e).2.1 ≤ bs.length := by
  have h := cnt_range bs a most hb hm
  unfold textR txt
  split
  · exact ha
  · split
    · split
      · rename_i h0 h1; exact h1
      · exact ha
    · exact ha
theorem bytes_drop {bs : List Int} (hb : Bytes bs) (n : Nat) : Bytes (bs.drop n) := fun c hc => hb c (List.mem_of_mem_drop hc)
theorem bytes_take {bs : List Int} (hb : Bytes bs) (n : Nat) : Bytes (bs.take n) := fun c hc => hb c (List.mem_of_mem_take hc)
end Go.Proofs.Ytcgajjaaiablkaa.RHd
