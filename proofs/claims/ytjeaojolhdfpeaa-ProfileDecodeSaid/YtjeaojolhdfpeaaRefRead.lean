/- The reference's Read; and that a reader over what lies behind the first bytes reads what a reader over all reads there. -/
import Derived.Test.YtjeaojolhdfpeaaRefSpot
import Derived.Test.YtjeaojolhdfpeaaDecode
namespace Go.Proofs.Ytjeaojolhdfpeaa.RefReader
open Go.RowKit Go.Proofs.YtjeaojolhdfpeaaW.PrintWords Go.Proofs.YtjeaojolhdfpeaaW.PrintLast Go.Proofs.YtjeaojolhdfpeaaW.PrintMore
open Go.Proofs.Ytjeaojolhdfpeaa.PProfileDecode Go.Proofs.Ytjeaojolhdfpeaa.Reader Go.Proofs.Ytjeaojolhdfpeaa.Methods Go.Proofs.Ytjeaojolhdfpeaa.NumRef Go.Proofs.Ytjeaojolhdfpeaa.SpotOf Go.Proofs.Ytjeaojolhdfpeaa.Decode
set_option linter.unusedVariables false
set_option linter.unusedSimpArgs false

theorem rd_drop (bs : List Int) (n i : Nat) : rd (bs.drop n) (i : Int) = rd bs ((i + n : Nat) : Int) := by
  simp only [rd, List.getD_eq_getElem?_getD, Int.toNat_natCast, List.getElem?_drop]
  rw [Nat.add_comm]
/-- What a reading answers, its place moved. -/
def sh (n : Nat) (r : Int × Nat × Int) : Int × Nat × Int := (r.1, r.2.1 + n, r.2.2)
theorem numR_drop (bs : List Int) (n a : Nat) (hn : n ≤ bs.length) : ∀ (d i : Nat) (X : Int), numR (bs.drop n) a d i X = numR bs (a + n) d i X := by
  intro d
  induction d with
  | zero => intro i X; rfl
  | succ d ih =>
    intro i X
    simp only [numR]
    have h1 : a + i < (bs.drop n).length ↔ a + n + i < bs.length := by rw [List.length_drop]; omega
    have h2 : rd (bs.drop n) ((a + i : Nat) : Int) = rd bs ((a + n + i : Nat) : Int) := by rw [rd_drop]; congr 2; omega
    simp only [h1, h2, ih]
theorem num_drop (bs : List Int) (n a : Nat) (hn : n ≤ bs.length) : num (bs.drop n) a = num bs (a + n) := numR_drop bs n a hn 10 0 0
theorem uintR_drop (bs : List Int) (n a : Nat) (e : Int) (hn : n ≤ bs.length) : sh n (uintR (bs.drop n) a e) = uintR bs (a + n) e := by
  unfold uintR rdNum sh
  rw [num_drop bs n a hn]
  repeat' split
  all_goals simp only [Prod.mk.injEq, true_and, and_true]
  all_goals omega
theorem countR_drop (bs : List Int) (n a : Nat) (m e : Int) (hn : n ≤ bs.length) : sh n (countR (bs.drop n) a m e) = countR bs (a + n) m e := by
  unfold countR rdNum sh cnt
  rw [num_drop bs n a hn]
  repeat' split
  all_goals simp only [Prod.mk.injEq, true_and, and_true]
  all_goals omega
theorem byteR_drop (bs : List Int) (n a : Nat) (e : Int) (hn : n ≤ bs.length) : sh n (byteR (bs.drop n) a e) = byteR bs (a + n) e := by
  unfold byteR rdNum sh
  have h1 : a < (bs.drop n).length ↔ a + n < bs.length := by rw [List.length_drop]; omega
  rw [rd_drop]
  simp only [h1]
  repeat' split
  all_goals simp_all
  all_goals omega
def sh3 {α : Type} (n : Nat) (r : Int × α × Nat) : Int × α × Nat := (r.1, r.2.1, r.2.2 + n)
theorem fieldsR_drop (bs : List Int) (n : Nat) (fl : Int) (hn : n ≤ bs.length) : ∀ (d : Nat) (s : S28) (a : Nat), sh3 n (fieldsR (bs.drop n) fl d s a) = fieldsR bs fl d s (a + n) := by
  intro d
  induction d with
  | zero => intro s a; rfl
  | succ d ih =>
    intro s a
    have hu := uintR_drop bs n a 0 hn
    have e1 : (uintR bs (a + n) 0).1 = (uintR (bs.drop n) a 0).1 := by rw [← hu]; rfl
    have e2 : (uintR bs (a + n) 0).2.1 = (uintR (bs.drop n) a 0).2.1 + n := by rw [← hu]; rfl
    have e3 : (uintR bs (a + n) 0).2.2 = (uintR (bs.drop n) a 0).2.2 := by rw [← hu]; rfl
    simp only [fieldsR]
    rw [e1, e2, e3]
    by_cases h1 : fl / 2 ^ (3 - d) % 2 = 0
    · rw [if_pos h1, if_pos h1]
      exact ih s a
    · rw [if_neg h1, if_neg h1]
      by_cases h2 : (uintR (bs.drop n) a 0).2.2 ≠ 0
      · rw [if_pos h2, if_pos h2]; rfl
      · rw [if_neg h2, if_neg h2]
        by_cases h3 : (uintR (bs.drop n) a 0).1 = 0
        · rw [if_pos h3, if_pos h3]; rfl
        · rw [if_neg h3, if_neg h3]
          generalize setF s (3 - d) (if d = 0 then Nums3.unzig (uintR (bs.drop n) a 0).1 else (uintR (bs.drop n) a 0).1) = s'
          by_cases h4 : okSpot s' = true
          · rw [if_pos h4, if_pos h4]
            exact ih s' _
          · rw [if_neg h4, if_neg h4]; rfl
theorem spotR_drop (bs : List Int) (n a : Nat) (hn : n ≤ bs.length) : sh3 n (spotR (bs.drop n) a) = spotR bs (a + n) := by
  unfold spotR
  have h1 : a < (bs.drop n).length ↔ a + n < bs.length := by rw [List.length_drop]; omega
  rw [rd_drop]
  by_cases h : a + n < bs.length
  · rw [if_pos h, if_pos (h1.2 h)]
    by_cases h2 : rd bs ((a + n : Nat) : Int) > 15
    · rw [if_pos h2, if_pos h2]; rfl
    · rw [if_neg h2, if_neg h2, fieldsR_drop bs n _ hn]
      congr 1
      omega
  · rw [if_neg h, if_neg (fun h3 => h (h1.1 h3))]; rfl
theorem spotsA_drop (bs : List Int) (n : Nat) (hn : n ≤ bs.length) : ∀ (m : Nat) (l : List S28) (a : Nat), sh3 n (spotsA (bs.drop n) m l a) = spotsA bs m l (a + n) := by
  intro m
  induction m with
  | zero => intro l a; rfl
  | succ m ih =>
    intro l a
    have hs := spotR_drop bs n a hn
    have e1 : (spotR bs (a + n)).1 = (spotR (bs.drop n) a).1 := by rw [← hs]; rfl
    have e2 : (spotR bs (a + n)).2.1 = (spotR (bs.drop n) a).2.1 := by rw [← hs]; rfl
    have e3 : (spotR bs (a + n)).2.2 = (spotR (bs.drop n) a).2.2 + n := by rw [← hs]; rfl
    simp only [spotsA]
    rw [e1, e2, e3]
    by_cases h1 : (spotR (bs.drop n) a).1 ≠ 0
    · rw [if_pos h1, if_pos h1]; rfl
    · rw [if_neg h1, if_neg h1]
      exact ih _ _
def sh4 {α : Type} (n : Nat) (r : Int × α × Nat × Int) : Int × α × Nat × Int := (r.1, r.2.1, r.2.2.1 + n, r.2.2.2)
theorem rowsA_drop (bs : List Int) (n : Nat) (hn : n ≤ bs.length) : ∀ (m : Nat) (l : List (List S28)) (a : Nat) (e : Int), sh4 n (rowsA (bs.drop n) m l a e) = rowsA bs m l (a + n) e := by
  intro m
  induction m with
  | zero => intro l a e; rfl
  | succ m ih =>
    intro l a e
    have hc := countR_drop bs n a 2000 e hn
    have c1 : (countR bs (a + n) 2000 e).1 = (countR (bs.drop n) a 2000 e).1 := by rw [← hc]; rfl
    have c2 : (countR bs (a + n) 2000 e).2.1 = (countR (bs.drop n) a 2000 e).2.1 + n := by rw [← hc]; rfl
    have c3 : (countR bs (a + n) 2000 e).2.2 = (countR (bs.drop n) a 2000 e).2.2 := by rw [← hc]; rfl
    have hs := spotsA_drop bs n hn (countR (bs.drop n) a 2000 e).1.toNat [] (countR (bs.drop n) a 2000 e).2.1
    simp only [rowsA]
    rw [c1, c2, c3, ← hs]
    generalize spotsA (bs.drop n) (countR (bs.drop n) a 2000 e).1.toNat [] (countR (bs.drop n) a 2000 e).2.1 = T
    by_cases h1 : T.1 ≠ 0
    · rw [if_pos h1, if_pos (show (sh3 n T).1 ≠ 0 from h1)]; rfl
    · rw [if_neg h1, if_neg (show ¬ (sh3 n T).1 ≠ 0 from h1)]
      exact ih _ _ _

/-! CopyBytes of bytes: the same bytes. -/
theorem copy_l0 (bs : List Int) (hl : bs.length ≤ 140737488355328) (d : Nat) : ∀ i : Nat, bs.length - i = d → i ≤ bs.length → Ev (fun k => portageref0_CopyBytes.l0 k bs (bs.take i) (i : Int)) bs := by
  induction d with
  | zero =>
    intro i hi hle
    have : i = bs.length := by omega
    subst this
    refine Ev.step (fun k => ?_) (Ev.now _)
    simp only [portageref0_CopyBytes.l0]
    rw [if_neg (by omega), List.take_length]
  | succ d ih =>
    intro i hi hle
    refine Ev.step (fun k => ?_) (ih (i + 1) (by omega) (by omega))
    simp only [portageref0_CopyBytes.l0]
    have hw : wrap64 ((i : Int) + 1) = ((i + 1 : Nat) : Int) := by unfold wrap64; omega
    have ht : bs.take i ++ [rd bs (i : Int)] = bs.take (i + 1) := by
      rw [List.take_succ_eq_append_getElem (by omega : i < bs.length)]
      simp [rd, List.getD_eq_getElem?_getD, List.getElem?_eq_getElem (by omega : i < bs.length)]
    rw [if_pos (by omega), if_pos (by omega), if_pos (by rw [List.length_take]; omega), hw, ht]
theorem copy_bytes (bs : List Int) (hl : bs.length ≤ 140737488355328) : ∃ k, portageref0_CopyBytes.f k bs = some bs := (copy_l0 bs hl _ 0 rfl (Nat.zero_le _)).rounds

set_option maxHeartbeats 8000000 in
set_option maxRecDepth 100000 in
/-- The reference's Read; w1 is the world behind the copy. -/
theorem read (A : Option Addr) (c : Nat) (bs : List Int) (w : World) (hr : Kd.C (Kd.int .u8) w A bs.length bs) (hc : bs.length ≤ c) (hl : bs.length ≤ 140737488355328) :
    Calls Try.prog 54 #[.slice A bs.length c] w fun e w' => ∃ (w1 : World) (g : Nat) (A' : Option Addr) (c' : Nat), e = .returned (.pointer (some ⟨g, 0, none⟩)) ∧ Below w.heap.size w w1 ∧ Rr w1 w' w' g A' c' bs 0 0 := by
  obtain ⟨k, hk⟩ := copy_bytes bs hl
  have HC := Aside0.mk (portageref0_CopyBytes.calls k A c bs bs w hr hc hk)
  clear hr hk
  go_enter Try.func54, Try.ntmps54
  go_wp2_with (go_at_call 25; refine HC.out.mono ?_; rintro e w1 ⟨v, rfl, hR, hb⟩; obtain ⟨A', c', rfl⟩ := Kd.R_slice hR; have HR1 := Aside0.mk (Kd.R_reads' hR); have HB1 := Aside0.mk hb; clear hR hb)
  go_ret
  exact ⟨w1, _, A', c', rfl, HB1.out, ⟨blk_new _ _, Nat.le_refl _, HR1.out.2.2, HR1.out.2.1, below_alloc (Below.refl _ _) _, KeepBut.refl _ _ _⟩⟩
end Go.Proofs.Ytjeaojolhdfpeaa.RefReader
