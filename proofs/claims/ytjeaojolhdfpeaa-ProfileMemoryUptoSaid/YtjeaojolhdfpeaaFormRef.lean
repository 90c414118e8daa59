/- The reference's Encode answers the form, or the error. Plain lists and numbers. -/
import Derived.Test.YtjeaojolhdfpeaaForm
namespace Go.Proofs.Ytjeaojolhdfpeaa.Form
open Go.RowKit Go.Proofs.YtjeaojolhdfpeaaW.PrintWords Go.Proofs.YtjeaojolhdfpeaaW.PrintMore
open Go.Proofs.Ytjeaojolhdfpeaa.PProfileMemory
set_option linter.unusedVariables false
set_option linter.unusedSimpArgs false

/-- The numbers of a spot as Go's types have them. -/
def Rg (s : S28) : Prop := (-9223372036854775808 ≤ s.f0 ∧ s.f0 ≤ 9223372036854775807) ∧ (0 ≤ s.f1 ∧ s.f1 ≤ 65535) ∧ (0 ≤ s.f2 ∧ s.f2 ≤ 65535) ∧ (-9223372036854775808 ≤ s.f3 ∧ s.f3 ≤ 9223372036854775807)
theorem Rg.inI {s : S28} (h : Rg s) : InI s := ⟨h.1.2, h.2.1.2, h.2.2.1.2, h.2.2.2⟩

theorem folded (x : Int) (hx : -9223372036854775808 ≤ x ∧ x ≤ 9223372036854775807) : portageref01_Folded.f x = some (foldZ x) := by
  unfold portageref01_Folded.f foldZ
  by_cases h : x ≥ 0
  · rw [if_pos h, if_pos h]
    congr 1
    rw [IntKind.wrap_u64, IntKind.wrap_u64]
    omega
  · rw [if_neg h, if_neg h]
    congr 1
    rw [IntKind.wrap_u64, IntKind.wrap_u64, IntKind.wrap_u64]
    unfold wrap64
    omega
theorem foldZ_range (x : Int) (hx : -9223372036854775808 ≤ x ∧ x ≤ 9223372036854775807) : 0 ≤ foldZ x ∧ foldZ x < 18446744073709551616 := by
  unfold foldZ
  split <;> omega
theorem putInt (x : Int) (bs : List Int) (hx : -9223372036854775808 ≤ x ∧ x ≤ 9223372036854775807) (hl : bs.length ≤ 140737488355000) : Ev (fun k => portageref01_PutInt.f k bs x) (bs ++ uv (foldZ x).toNat) := by
  have hr := foldZ_range x hx
  have h := putUint (foldZ x).toNat bs (by omega) hl
  rw [Int.toNat_of_nonneg hr.1] at h
  unfold portageref01_PutInt.f
  simp only [folded x hx, Option.bind_some]
  exact Ev.bind h (Ev.now _)
/-- A field that is laid down if it is not 0. -/
theorem field (x : Int) (bs : List Int) (hx : 0 ≤ x ∧ x < 18446744073709551616) (hl : bs.length ≤ 140737488355000) (hne : ¬ x = 0) : Ev (fun k => portageref01_PutUint.f k bs (IntKind.u64.wrap x)) (bs ++ partB x) := by
  have h := putUint x.toNat bs (by omega) hl
  rw [Int.toNat_of_nonneg hx.1] at h
  rw [show IntKind.u64.wrap x = x by rw [IntKind.wrap_u64]; omega]
  unfold partB
  rw [if_neg hne]
  exact h

theorem put5 (s : S28) (h0 : 0 ≤ s.f0) (h : Rg s) (bs : List Int) (hl : bs.length ≤ 140737488354000) :
    Ev (fun k => portageref18_put.j5 k bs s.f0 s.f1 s.f2 s.f3) (bs ++ partB s.f2 ++ (if s.f3 = 0 then [] else uv (foldZ s.f3).toNat)) := by
  obtain ⟨r0, r1, r2, r3⟩ := h
  by_cases h2 : s.f2 = 0
  · by_cases h3 : s.f3 = 0
    · refine Ev.step (f := fun _ => some bs) (fun k => ?_) ?_
      · simp only [portageref18_put.j5]
        rw [if_pos h2, if_pos h3]
      · simp only [partB, h2, h3, if_true, List.append_nil]
        exact Ev.now _
    · refine Ev.step (f := fun k => (portageref01_PutInt.f k bs s.f3).bind fun t => some t) (fun k => ?_) ?_
      · simp only [portageref18_put.j5]
        rw [if_pos h2, if_neg h3]
      · simp only [partB, h2, if_true, List.append_nil, if_neg h3]
        exact Ev.bind (putInt s.f3 bs r3 (by omega)) (Ev.now _)
  · have e := field s.f2 bs (by omega) (by omega) h2
    have hp := partB_length s.f2 (by omega)
    by_cases h3 : s.f3 = 0
    · refine Ev.step (f := fun k => (portageref01_PutUint.f k bs (IntKind.u64.wrap s.f2)).bind fun t => some t) (fun k => ?_) ?_
      · simp only [portageref18_put.j5]
        simp only [if_neg h2, if_pos h3]
      · simp only [if_pos h3, List.append_nil]
        exact Ev.bind e (Ev.now _)
    · refine Ev.step (f := fun k => (portageref01_PutUint.f k bs (IntKind.u64.wrap s.f2)).bind fun t => (portageref01_PutInt.f k t s.f3).bind fun t => some t) (fun k => ?_) ?_
      · simp only [portageref18_put.j5]
        simp only [if_neg h2, if_neg h3]
      · simp only [if_neg h3]
        exact Ev.bind e (Ev.bind (putInt s.f3 _ r3 (by rw [List.length_append]; omega)) (Ev.now _))
theorem put4 (s : S28) (h0 : 0 ≤ s.f0) (h : Rg s) (bs : List Int) (hl : bs.length ≤ 140737488353000) :
    Ev (fun k => portageref18_put.j4 k bs s.f0 s.f1 s.f2 s.f3) (bs ++ partB s.f1 ++ partB s.f2 ++ (if s.f3 = 0 then [] else uv (foldZ s.f3).toNat)) := by
  by_cases h2 : s.f1 = 0
  · have hp : partB s.f1 = [] := by simp [partB, h2]
    rw [hp, List.append_nil]
    refine Ev.step (fun k => ?_) (put5 s h0 h bs (by omega))
    simp only [portageref18_put.j4]
    rw [if_pos h2]
  · have e := field s.f1 bs (by have := h.2.1; omega) (by omega) h2
    have hp := partB_length s.f1 (by have := h.2.1; omega)
    refine Ev.step (fun k => ?_) (Ev.bind (f := fun k t => portageref18_put.j5 k t s.f0 s.f1 s.f2 s.f3) e (put5 s h0 h (bs ++ partB s.f1) (by rw [List.length_append]; omega)))
    simp only [portageref18_put.j4]
    rw [if_neg h2]
theorem put3 (s : S28) (h0 : 0 ≤ s.f0) (h : Rg s) (bs : List Int) (fl : Int) (hl : bs.length ≤ 140737488352000) :
    Ev (fun k => portageref18_put.j3 k bs fl s.f0 s.f1 s.f2 s.f3) (bs ++ [fl] ++ partB s.f0 ++ partB s.f1 ++ partB s.f2 ++ (if s.f3 = 0 then [] else uv (foldZ s.f3).toNat)) := by
  by_cases h2 : s.f0 = 0
  · have hp : partB s.f0 = [] := by simp [partB, h2]
    rw [hp, List.append_nil]
    refine Ev.step (fun k => ?_) (put4 s h0 h (bs ++ [fl]) (by rw [List.length_append, List.length_singleton]; omega))
    simp only [portageref18_put.j3]
    rw [if_pos (by omega)]
    simp only [Option.bind_some, if_pos h2]
  · have e := field s.f0 (bs ++ [fl]) (by have := h.1; omega) (by rw [List.length_append, List.length_singleton]; omega) h2
    have hp := partB_length s.f0 (by have := h.1; omega)
    refine Ev.step (fun k => ?_) (Ev.bind (f := fun k t => portageref18_put.j4 k t s.f0 s.f1 s.f2 s.f3) e (put4 s h0 h (bs ++ [fl] ++ partB s.f0) (by rw [List.length_append, List.length_append, List.length_singleton]; omega)))
    simp only [portageref18_put.j3]
    rw [if_pos (by omega)]
    simp only [Option.bind_some, if_neg h2]
theorem putSpot (s : S28) (h0 : 0 ≤ s.f0) (h : Rg s) (bs : List Int) (hl : bs.length ≤ 140737488352000) : Ev (fun k => portageref18_put.f k bs s.f0 s.f1 s.f2 s.f3) (bs ++ spotForm s) := by
  have key : ∀ fl, fl = flagsOf s → Ev (fun k => portageref18_put.j3 k bs fl s.f0 s.f1 s.f2 s.f3) (bs ++ spotForm s) := fun fl e => by
    subst e
    have := put3 s h0 h bs (flagsOf s) hl
    simpa only [spotForm, List.append_assoc] using this
  have k2 : ∀ a, a + (if s.f3 = 0 then 0 else 8) = flagsOf s → 0 ≤ a → a ≤ 200 → Ev (fun k => portageref18_put.j2 k bs a s.f0 s.f1 s.f2 s.f3) (bs ++ spotForm s) := fun a e ha hb => by
    refine Ev.step (fun k => ?_) (key (flagsOf s) rfl)
    simp only [portageref18_put.j2]
    by_cases h3 : s.f3 = 0
    · rw [if_pos h3, ← e, if_pos h3, Int.add_zero]
    · rw [if_neg h3, ← e, if_neg h3, Int.emod_eq_of_lt (by omega) (by omega)]
  have k1 : ∀ a, a + (if s.f2 = 0 then 0 else 4) + (if s.f3 = 0 then 0 else 8) = flagsOf s → 0 ≤ a → a ≤ 100 → Ev (fun k => portageref18_put.j1 k bs a s.f0 s.f1 s.f2 s.f3) (bs ++ spotForm s) := fun a e ha hb => by
    refine Ev.step (fun k => ?_) (k2 (a + (if s.f2 = 0 then 0 else 4)) e (by split <;> omega) (by split <;> omega))
    simp only [portageref18_put.j1]
    by_cases h3 : s.f2 = 0
    · rw [if_pos h3, if_pos h3, Int.add_zero]
    · rw [if_neg h3, if_neg h3, Int.emod_eq_of_lt (by omega) (by omega)]
  have k0 : ∀ a, a + (if s.f1 = 0 then 0 else 2) + (if s.f2 = 0 then 0 else 4) + (if s.f3 = 0 then 0 else 8) = flagsOf s → 0 ≤ a → a ≤ 50 → Ev (fun k => portageref18_put.j0 k bs a s.f0 s.f1 s.f2 s.f3) (bs ++ spotForm s) := fun a e ha hb => by
    refine Ev.step (fun k => ?_) (k1 (a + (if s.f1 = 0 then 0 else 2)) e (by split <;> omega) (by split <;> omega))
    simp only [portageref18_put.j0]
    by_cases h3 : s.f1 = 0
    · rw [if_pos h3, if_pos h3, Int.add_zero]
    · rw [if_neg h3, if_neg h3, Int.emod_eq_of_lt (by omega) (by omega)]
  have k := k0 (if s.f0 = 0 then 0 else 1) rfl (by split <;> omega) (by split <;> omega)
  refine Ev.congr (fun k => ?_) k
  unfold portageref18_put.f
  by_cases h3 : s.f0 = 0
  · rw [if_pos h3, if_pos h3]
  · rw [if_neg h3, if_neg h3]
    rfl
theorem taken (s : S28) : portageref18_taken.f s.f0 s.f1 s.f2 s.f3 = some (okSpot s) := by
  unfold portageref18_taken.f okSpot
  by_cases h0 : s.f0 ≥ 0
  · rw [if_pos h0, decide_eq_true (show 0 ≤ s.f0 from h0), Bool.true_and]
    by_cases h1 : s.f1 ≤ 1023
    · rw [if_pos h1, decide_eq_true h1, Bool.true_and]
      by_cases h2 : s.f2 ≤ 1023
      · rw [if_pos h2, decide_eq_true h2, Bool.true_and]
        by_cases h3 : s.f3 ≥ -1
        · rw [if_pos h3, decide_eq_true (show -1 ≤ s.f3 from h3), Bool.true_and]
        · rw [if_neg h3, decide_eq_false (show ¬ -1 ≤ s.f3 from h3), Bool.false_and]
      · rw [if_neg h2, decide_eq_false h2, Bool.false_and]
    · rw [if_neg h1, decide_eq_false h1, Bool.false_and]
  · rw [if_neg h0, decide_eq_false (show ¬ 0 ≤ s.f0 from h0), Bool.false_and]

/-! The loops of the reference's Encode. -/
theorem take_snoc {α : Type} (l : List α) (i : Nat) (h : i < l.length) : l.take (i + 1) = l.take i ++ [l[i]] := List.take_succ_eq_append_getElem h
theorem rdL (l : List (List S28)) (i : Nat) (h : i < l.length) : rd_L4 l (i : Int) = l[i] := by simp [rd_L4, List.getD_eq_getElem?_getD, List.getElem?_eq_getElem h]
theorem rdT (x : List S28) (i : Nat) (h : i < x.length) : rd_T28 x (i : Int) = x[i] := by simp [rd_T28, List.getD_eq_getElem?_getD, List.getElem?_eq_getElem h]
theorem wrapN (i n : Nat) (h : i < n) (hn : n ≤ 9223372036854775807) : wrap64 ((i : Int) + 1) = ((i + 1 : Nat) : Int) := by unfold wrap64; omega
theorem rows_length (x : List S28) (h : ∀ s ∈ x, InI s) : (x.flatMap spotForm).length ≤ 41 * x.length := by
  induction x with
  | nil => simp
  | cons a x ih =>
    have h1 := spotForm_length a (h a List.mem_cons_self)
    have h2 := ih (fun s hs => h s (List.mem_cons_of_mem _ hs))
    simp only [List.flatMap_cons, List.length_append, List.length_cons]
    omega
theorem rowForm_length (x : List S28) (hx : x.length ≤ 2000) (h : ∀ s ∈ x, InI s) : (rowForm x).length ≤ 82010 := by
  have h1 := rows_length x h
  have h2 := uv_length (n := x.length) (by omega)
  simp only [rowForm, List.length_append]
  omega
theorem profForm_length (l : List (List S28)) (hm : ∀ x ∈ l, x.length ≤ 2000) (h : ∀ x ∈ l, ∀ s ∈ x, InI s) : (l.flatMap rowForm).length ≤ 82010 * l.length := by
  induction l with
  | nil => simp
  | cons a l ih =>
    have h1 := rowForm_length a (hm a List.mem_cons_self) (h a List.mem_cons_self)
    have h2 := ih (fun s hs => hm s (List.mem_cons_of_mem _ hs)) (fun s hs => h s (List.mem_cons_of_mem _ hs))
    simp only [List.flatMap_cons, List.length_append, List.length_cons]
    omega
def okUpto (x : List S28) (j : Nat) : Bool := (x.drop j).all okSpot
theorem okUpto_step (x : List S28) (j : Nat) (h : j < x.length) : okUpto x j = (okSpot x[j] && okUpto x (j + 1)) := by
  unfold okUpto
  rw [List.drop_eq_getElem_cons h, List.all_cons]
def okFrom (l : List (List S28)) (i : Nat) : Bool := (l.drop i).all fun x => x.all okSpot
theorem okFrom_step (l : List (List S28)) (i : Nat) (h : i < l.length) : okFrom l i = (okUpto l[i] 0 && okFrom l (i + 1)) := by
  unfold okFrom
  rw [List.drop_eq_getElem_cons h, List.all_cons]
  rfl
theorem form_split (l : List (List S28)) (i : Nat) (h : i < l.length) : (l.drop i).flatMap rowForm = uv l[i].length ++ l[i].flatMap spotForm ++ (l.drop (i + 1)).flatMap rowForm := by
  rw [List.drop_eq_getElem_cons h, List.flatMap_cons]
  rfl
theorem spots_split (x : List S28) (j : Nat) (h : j < x.length) : (x.drop j).flatMap spotForm = spotForm x[j] ++ (x.drop (j + 1)).flatMap spotForm := by
  rw [List.drop_eq_getElem_cons h, List.flatMap_cons]

section
variable (l : List (List S28)) (hl : l.length ≤ 128) (hm : ∀ x ∈ l, x.length ≤ 2000) (hr : ∀ x ∈ l, ∀ s ∈ x, Rg s)
include hl hm hr
theorem enc_l2 (i : Nat) (hi : i < l.length) (nextOk : ∀ bs : List Int, bs.length ≤ 82010 * (i + 1) + 100 → Ev (fun k => portageref18_Encode.l1 k bs (wrap64 ((i : Int) + 1)) l) (if okFrom l (i + 1) then (bs ++ (l.drop (i + 1)).flatMap rowForm, 0) else ([], 1)))
    (d : Nat) : ∀ (j : Nat) (bs : List Int), l[i].length - j = d → j ≤ l[i].length → bs.length + 41 * d ≤ 82010 * (i + 1) + 100 →
      Ev (fun k => portageref18_Encode.l2 k bs (i : Int) (j : Int) l) (if okUpto l[i] j && okFrom l (i + 1) then (bs ++ (l[i].drop j).flatMap spotForm ++ (l.drop (i + 1)).flatMap rowForm, 0) else ([], 1)) := by
  have hin := List.getElem_mem hi
  have h2000 := hm _ hin
  induction d with
  | zero =>
    intro j bs hd hj hb
    have e : l[i].drop j = [] := List.drop_eq_nil_of_le (by omega)
    have e2 : okUpto l[i] j = true := by simp [okUpto, e]
    rw [e, e2]
    simp only [List.flatMap_nil, List.append_nil, Bool.true_and]
    refine Ev.step (fun k => ?_) (nextOk bs (by omega))
    simp only [portageref18_Encode.l2]
    rw [rdL l i hi, if_pos (by omega), if_pos (by omega), if_neg (by omega)]
  | succ d ih =>
    intro j bs hd hj hb
    have hj' : j < l[i].length := by omega
    have hs := hr _ hin _ (List.getElem_mem hj')
    rw [okUpto_step _ _ hj', spots_split _ _ hj']
    cases ht : okSpot l[i][j] with
    | false =>
      simp only [Bool.false_and, Bool.false_eq_true, if_false]
      refine Ev.step (f := fun _ => some ([], 1)) (fun k => ?_) (Ev.now _)
      simp only [portageref18_Encode.l2]
      rw [rdL l i hi, if_pos (by omega), if_pos (by omega), if_pos (by omega), if_pos (by omega), rdT _ _ hj', taken, ht]
      simp
    | true =>
      simp only [Bool.true_and]
      have h0 : 0 ≤ l[i][j].f0 := by simp [okSpot] at ht; exact ht.1
      have h1 := putSpot _ h0 hs bs (by omega)
      have hsl := spotForm_length _ hs.inI
      have h2 := ih (j + 1) (bs ++ spotForm l[i][j]) (by omega) (by omega) (by rw [List.length_append]; omega)
      rw [List.append_assoc bs] at h2
      refine Ev.step (fun k => ?_) (Ev.bind (f := fun k t => portageref18_Encode.l2 k t (i : Int) ((j + 1 : Nat) : Int) l) h1 h2)
      simp only [portageref18_Encode.l2]
      rw [rdL l i hi, if_pos (by omega), if_pos (by omega), if_pos (by omega), if_pos (by omega), rdT _ _ hj', taken, ht, wrapN j _ hj' (by omega)]
      simp
theorem enc_l1 (d : Nat) : ∀ (i : Nat) (bs : List Int), l.length - i = d → i ≤ l.length → bs.length ≤ 82010 * i + 100 →
    Ev (fun k => portageref18_Encode.l1 k bs (i : Int) l) (if okFrom l i then (bs ++ (l.drop i).flatMap rowForm, 0) else ([], 1)) := by
  induction d with
  | zero =>
    intro i bs hd hi hb
    have e : l.drop i = [] := List.drop_eq_nil_of_le (by omega)
    have e2 : okFrom l i = true := by simp [okFrom, e]
    rw [e, e2]
    simp only [List.flatMap_nil, List.append_nil, if_true]
    refine Ev.step (f := fun _ => some (bs, 0)) (fun k => ?_) (Ev.now _)
    simp only [portageref18_Encode.l1]
    rw [if_neg (by omega)]
  | succ d ih =>
    intro i bs hd hi hb
    have hi' : i < l.length := by omega
    have hx := hm _ (List.getElem_mem hi')
    have h1 := putUint l[i].length bs (by omega) (by omega)
    have hu := uv_length (n := l[i].length) (by omega)
    have h2 := enc_l2 l hl hm hr i hi' (fun bs2 hb2 => by rw [wrapN i _ hi' (by omega)]; exact ih (i + 1) bs2 (by omega) (by omega) (by omega)) l[i].length 0 (bs ++ uv l[i].length) (by omega) (by omega) (by rw [List.length_append]; omega)
    rw [List.drop_zero, List.append_assoc, List.append_assoc, ← List.append_assoc (uv _), ← form_split _ _ hi', ← okFrom_step _ _ hi'] at h2
    refine Ev.step (fun k => ?_) (Ev.bind (f := fun k t => portageref18_Encode.l2 k t (i : Int) ((0 : Nat) : Int) l) h1 h2)
    simp only [portageref18_Encode.l1]
    rw [rdL l i hi', if_pos (by omega), if_pos (by omega), show IntKind.u64.wrap (l[i].length : Int) = (l[i].length : Int) by rw [IntKind.wrap_u64]; omega]
    rfl
end

theorem many_false {l : List (List S28)} (h : many l = false) : l.length ≤ 128 ∧ ∀ x ∈ l, x.length ≤ 2000 := by
  unfold many at h
  rw [Bool.or_eq_false_iff, decide_eq_false_iff_not, List.any_eq_false] at h
  exact ⟨by omega, fun x hx => by have := h.2 x hx; simp at this; omega⟩
theorem enc_l0 (l : List (List S28)) (hr : ∀ x ∈ l, ∀ s ∈ x, Rg s) (hlen : l.length ≤ 128) (d : Nat) : ∀ i : Nat, l.length - i = d → i ≤ l.length → (∀ x ∈ l.take i, x.length ≤ 2000) →
    Ev (fun k => portageref18_Encode.l0 k (i : Int) l) (enc l) := by
  induction d with
  | zero =>
    intro i hd hi hx
    have hm : ∀ x ∈ l, x.length ≤ 2000 := by rw [List.take_of_length_le (by omega)] at hx; exact hx
    have he : enc l = if okFrom l 0 then (form l, 0) else ([], 1) := by
      have : many l = false := by
        unfold many
        rw [Bool.or_eq_false_iff, decide_eq_false_iff_not, List.any_eq_false]
        exact ⟨by omega, fun x hx => by have := hm x hx; simp; omega⟩
      unfold enc
      rw [this]
      rfl
    rw [he]
    have h1 := putUint l.length headForm (by omega) (by simp [headForm])
    have hu := uv_length (n := l.length) (by omega)
    have h2 := enc_l1 l hlen hm hr l.length 0 (headForm ++ uv l.length) (by omega) (by omega) (by simp [headForm]; omega)
    rw [List.drop_zero] at h2
    refine Ev.step (fun k => ?_) (Ev.bind (f := fun k t => portageref18_Encode.l1 k t ((0 : Nat) : Int) l) h1 h2)
    simp only [portageref18_Encode.l0]
    rw [if_neg (by omega), show IntKind.u64.wrap (l.length : Int) = (l.length : Int) by rw [IntKind.wrap_u64]; omega]
    rfl
  | succ d ih =>
    intro i hd hi hx
    have hi' : i < l.length := by omega
    by_cases h : l[i].length > 2000
    · have he : enc l = ([], 5) := by
        have : many l = true := by
          unfold many
          rw [Bool.or_eq_true]
          right
          rw [List.any_eq_true]
          exact ⟨_, List.getElem_mem hi', by simp; omega⟩
        unfold enc
        rw [this]
        rfl
      rw [he]
      refine Ev.step (f := fun _ => some ([], 5)) (fun k => ?_) (Ev.now _)
      simp only [portageref18_Encode.l0]
      rw [rdL l i hi', if_pos (by omega), if_pos (by omega), if_pos (by omega)]
    · refine Ev.step (fun k => ?_) (ih (i + 1) (by omega) (by omega) (fun x hxm => ?_))
      · simp only [portageref18_Encode.l0]
        rw [rdL l i hi', if_pos (by omega), if_pos (by omega), if_neg (by omega), wrapN i _ hi' (by omega)]
      · rw [take_snoc l i hi'] at hxm
        rcases List.mem_append.1 hxm with hxm | hxm
        · exact hx x hxm
        · rw [List.mem_singleton.1 hxm]; omega
/-- The reference's Encode. -/
theorem enc_ref (l : List (List S28)) (hr : ∀ x ∈ l, ∀ s ∈ x, Rg s) : ∃ k, portageref18_Encode.f k l = some (enc l) := by
  unfold portageref18_Encode.f
  by_cases h : (l.length : Int) > 128
  · refine ⟨0, ?_⟩
    have : many l = true := by
      unfold many
      rw [Bool.or_eq_true]
      left
      simp
      omega
    rw [if_pos h]
    unfold enc
    rw [this]
    rfl
  · obtain ⟨k, hk⟩ := (enc_l0 l hr (by omega) l.length 0 (by omega) (by omega) (fun x hx => by simp at hx)).rounds
    exact ⟨k, by rw [if_neg h]; exact hk⟩
theorem enc_length (l : List (List S28)) (hr : ∀ x ∈ l, ∀ s ∈ x, Rg s) : (enc l).1.length ≤ 10500000 := by
  unfold enc
  split
  · simp
  · rename_i h
    obtain ⟨hl, hm⟩ := many_false (by simpa using h)
    split
    · have h1 := profForm_length l hm (fun x hx s hs => (hr x hx s hs).inI)
      have h2 := uv_length (n := l.length) (by omega)
      simp only [form, headForm, List.length_append, List.length_cons, List.length_nil]
      omega
    · simp
end Go.Proofs.Ytjeaojolhdfpeaa.Form
