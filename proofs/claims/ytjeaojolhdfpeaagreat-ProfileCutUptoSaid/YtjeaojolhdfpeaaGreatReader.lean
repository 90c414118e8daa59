/- wire's Reader: its inner functions (next, number, count, take), which panic with a fault where they give up. -/
import Derived.Test.YtjeaojolhdfpeaaGreatPProfileCutx2
import Derived.Test.YtjeaojolhdfpeaaGreatCutT
import Derived.Test.YtjeaojolhdfpeaaGreatPProfileCutx4
import Derived.Test.YtjeaojolhdfpeaaGreatPProfileCutx5
import Derived.Test.YtjeaojolhdfpeaaGreatCutK
import Derived.Test.YtjeaojolhdfpeaaGreatNums2
import Derived.Lib.SliceRun
import Derived.WalkSmall
namespace Go.Proofs.YtjeaojolhdfpeaaGreat.Reader
open Go.RowKit Go.Proofs.YtjeaojolhdfpeaaGreatW.PrintWords Go.Proofs.YtjeaojolhdfpeaaGreatW.PrintLast Go.Proofs.YtjeaojolhdfpeaaGreatW.PrintMore
open Go.Proofs.YtjeaojolhdfpeaaGreat.PProfileCut
set_option linter.unusedVariables false
set_option linter.unusedSimpArgs false

abbrev Rd := IsS161
/-- What a reader gives up with. -/
def fault (q : Int) : PanicEntry := { v := .iface 164 (.agg #[.int .i64 q]), recovered := false }
/-- A reader that stands at w', moved from w. -/
structure Moved (w0 w w' : World) (g : Nat) (bs : List Int) (at_ err : Int) : Prop where
  rd : Rd w0 w' g bs at_ err
  below : Below w0.heap.size w0 w'
  keep : KeepBut w w' g none
theorem Moved.refl {w0 w : World} {g : Nat} {bs : List Int} {at_ err : Int} (h : Rd w0 w g bs at_ err) (hb : Below w0.heap.size w0 w) : Moved w0 w w g bs at_ err := ⟨h, hb, KeepBut.refl _ _ _⟩
theorem Moved.trans {w0 w w1 w2 : World} {g : Nat} {bs : List Int} {a e a' e' : Int} (h : Moved w0 w w1 g bs a e) (k : Moved w0 w1 w2 g bs a' e') : Moved w0 w w2 g bs a' e' := ⟨k.rd, k.below, h.keep.trans k.keep (.inl rfl)⟩
theorem Moved.drewN {w0 w w1 : World} {g : Nat} {bs : List Int} {a e : Int} (h : Moved w0 w w1 g bs a e) (n : Nat) : Moved w0 w (w1.drewN n) g bs a e := ⟨h.rd.drewN n, pw_below_drewN h.below n, keep_drewN h.keep n⟩
theorem Moved.drew {w0 w w1 : World} {g : Nat} {bs : List Int} {a e : Int} (h : Moved w0 w w1 g bs a e) : Moved w0 w w1.drew g bs a e := ⟨h.rd.drew, below_drew h.below, keep_drew h.keep⟩
theorem Moved.alloc {w0 w w1 : World} {g : Nat} {bs : List Int} {a e : Int} (h : Moved w0 w w1 g bs a e) (o : Obj) : Moved w0 w (w1.alloc o) g bs a e := ⟨h.rd.alloc o, below_alloc h.below o, keep_alloc h.keep o⟩
theorem Moved.set1 {w0 w w1 : World} {g : Nat} {bs : List Int} {a e : Int} (h : Moved w0 w w1 g bs a e) (x : Int) : Moved w0 w (w1.setCell ⟨g, 1, none⟩ (.int .i64 x)) g bs x e := ⟨h.rd.set_1 x, below_set h.below h.rd.ge, h.keep.set_ 1 _⟩
theorem Moved.set2 {w0 w w1 : World} {g : Nat} {bs : List Int} {a e : Int} (h : Moved w0 w w1 g bs a e) (x : Int) : Moved w0 w (w1.setCell ⟨g, 2, none⟩ (.int .i64 x)) g bs a x := ⟨h.rd.set_2 x, below_set h.below h.rd.ge, h.keep.set_ 2 _⟩

/-- Its cells. -/
theorem look {w0 W : World} {g : Nat} {bs : List Int} {a e : Int} (h : Rd w0 W g bs a e) : ∃ A c, W.cell? ⟨g, 0, none⟩ = some (.slice A bs.length c) ∧ W.cell? ⟨g, 1, none⟩ = some (.int .i64 a) ∧ W.cell? ⟨g, 2, none⟩ = some (.int .i64 e) ∧ W.frozen? ⟨g, 1, none⟩ = false ∧ W.frozen? ⟨g, 2, none⟩ = false ∧ bs.length ≤ 9223372036854775807 := by
  obtain ⟨A, c, hg, hge, hr⟩ := h
  exact ⟨A, c, cellS161_0 hg, cellS161_1 hg, cellS161_2 hg, blk_frozen hg 1, blk_frozen hg 2, Kd.C_max hr⟩
theorem look_at {w0 W : World} {g : Nat} {bs : List Int} {a e : Int} (h : Rd w0 W g bs a e) (hB : Below w0.heap.size w0 W) (j : Nat) (hj : j < bs.length) : ∃ ad c, W.cell? ⟨g, 0, none⟩ = some (.slice (some ad) bs.length c) ∧ W.cell? ⟨g, 1, none⟩ = some (.int .i64 a) ∧ W.cell? ⟨g, 2, none⟩ = some (.int .i64 e) ∧ W.frozen? ⟨g, 1, none⟩ = false ∧ W.frozen? ⟨g, 2, none⟩ = false ∧ bs.length ≤ 9223372036854775807 ∧ W.cell? (ad.add j) = some (.int .u8 (rd bs j)) := by
  obtain ⟨A, c, hg, hge, hr⟩ := h
  obtain ⟨ad, e, hx⟩ := Kd.at_int hr (j : Int) (by omega) (by omega)
  subst e
  exact ⟨ad, c, cellS161_0 hg, cellS161_1 hg, cellS161_2 hg, blk_frozen hg 1, blk_frozen hg 2, Kd.C_max hr, by simpa using pw_cell_below hB hx⟩

set_option maxHeartbeats 8000000 in
set_option maxRecDepth 100000 in
theorem next_some (g : Nat) (bs : List Int) (i : Nat) (err : Int) (w0 w : World) (hI : Rd w0 w g bs i err) (hB : Below w0.heap.size w0 w) (hi : i < bs.length) :
    Calls Tryz.prog 134 #[.pointer (some ⟨g, 0, none⟩)] w fun e w' => e = .returned (.int .u8 (rd bs i)) ∧ Moved w0 w w' g bs ((i + 1 : Nat) : Int) err := by
  have HM := Aside0.mk (Moved.refl hI hB)
  obtain ⟨A, c, h0, h1, h2, f1, f2, hmax⟩ := look hI
  clear hI hB
  have p1 : decide ((bs.length : Int) ≤ (i : Int)) = false := by simp; omega
  have p4 : decide (bs.length ≤ i) = false := by simp; omega
  go_enter Tryz.func134, Tryz.ntmps134
  go_wp2
  go_quiet (fail)
  go_wp2
  replace HM := Aside0.mk ((HM.out.drewN nq).set1 ((i : Int) + 1))
  generalize (w.drewN nq).setCell ⟨g, 1, none⟩ (.int .i64 ((i : Int) + 1)) = W at HM ⊢
  clear h0 h1 h2 f1 f2
  obtain ⟨ad, c2, h0, h1, h2, f1, f2, _, hx⟩ := look_at HM.out.rd HM.out.below i hi
  have p2 : (0 ≤ (i : Int)) = True := by simp
  have p3 : ((i : Int) < (bs.length : Int)) = True := by simp; omega
  go_quiet (fail)
  go_wp2
  go_ret
  exact ⟨rfl, HM.out.drewN _⟩

set_option maxHeartbeats 8000000 in
set_option maxRecDepth 100000 in
theorem next_none (g : Nat) (bs : List Int) (i : Nat) (err : Int) (w0 w : World) (hI : Rd w0 w g bs i err) (hB : Below w0.heap.size w0 w) (hi : bs.length ≤ i) :
    Calls Tryz.prog 134 #[.pointer (some ⟨g, 0, none⟩)] w fun e w' => e = .panicked [fault 2] ∧ Moved w0 w w' g bs i err := by
  have HM := Aside0.mk (Moved.refl hI hB)
  obtain ⟨A, c, h0, h1, h2, f1, f2, hmax⟩ := look hI
  clear hI hB
  have p1 : decide ((bs.length : Int) ≤ (i : Int)) = true := by simp; omega
  have p4 : decide (bs.length ≤ i) = true := by simp; omega
  go_enter Tryz.func134, Tryz.ntmps134
  go_wp2
  go_quiet (fail)
  go_wp2
  exact ⟨rfl, rfl, HM.out.drewN _⟩

/-- The form of a number from a place on: the number, how many bytes it has, the error (2: short, 4: no form). d + i = 10. -/
def numR (bs : List Int) (at_ : Nat) : Nat → Nat → Int → Int × Nat × Int
  | 0, _, _ => (0, 0, 4)
  | d + 1, i, x =>
    if at_ + i < bs.length then
      if (i = 9 ∧ rd bs ((at_ + i : Nat) : Int) ≠ 1) ∨ (0 < i ∧ rd bs ((at_ + i : Nat) : Int) = 0) then (0, 0, 4)
      else if rd bs ((at_ + i : Nat) : Int) < 128 then (x + rd bs ((at_ + i : Nat) : Int) * 128 ^ i, i + 1, 0)
      else numR bs at_ d (i + 1) (x + (rd bs ((at_ + i : Nat) : Int) - 128) * 128 ^ i)
    else (0, 0, 2)
def num (bs : List Int) (at_ : Nat) : Int × Nat × Int := numR bs at_ 10 0 0
/-- Bytes. -/
def Bytes (bs : List Int) : Prop := ∀ c ∈ bs, 0 ≤ c ∧ c < 256
theorem bytes_rd {bs : List Int} (h : Bytes bs) (j : Nat) : 0 ≤ rd bs (j : Int) ∧ rd bs (j : Int) < 256 := by
  by_cases hj : j < bs.length
  · have := h bs[j] (List.getElem_mem hj)
    simpa [rd, List.getD_eq_getElem?_getD, List.getElem?_eq_getElem hj] using this
  · have : rd bs (j : Int) = 0 := by simp [rd, List.getD_eq_getElem?_getD, List.getElem?_eq_none (by omega : bs.length ≤ j)]
    omega

/-- What a reading that may give up comes to. -/
def Outcome (w0 w : World) (g : Nat) (bs : List Int) (v : Value) (n : Nat) (no err : Int) (e : Ending) (w' : World) : Prop :=
  (no = 0 ∧ e = .returned v ∧ Moved w0 w w' g bs n err) ∨ (no ≠ 0 ∧ e = .panicked [fault no] ∧ ∃ m, Moved w0 w w' g bs m err)
set_option maxHeartbeats 8000000 in
set_option maxRecDepth 100000 in
theorem number (g : Nat) (bs : List Int) (a : Nat) (err : Int) (w0 w : World) (hI : Rd w0 w g bs a err) (hB : Below w0.heap.size w0 w) (hb : Bytes bs) (ha : a ≤ bs.length) :
    Calls Tryz.prog 132 #[.pointer (some ⟨g, 0, none⟩)] w (Outcome w0 w g bs (.int .u64 (num bs a).1) (a + (num bs a).2.1) (num bs a).2.2 err) := by
  obtain ⟨A, c, _, _, _, _, _, hmax⟩ := look hI
  have HM := Aside0.mk (Moved.refl hI hB)
  clear hI hB
  obtain ⟨r, hr⟩ : ∃ r, r = num bs a := ⟨_, rfl⟩
  have HR : Aside0 (numR bs a 10 0 0 = r) := ⟨hr.symm⟩
  rw [← hr]
  clear hr
  go_enter Tryz.func132, Tryz.ntmps132
  go_wp2_with fail
  go_loopw [3, 4] (fun x s wr => ∃ (i d : Nat) (X : Int), i + d = 9 ∧ x = .int .u64 X ∧ s = .int .i64 (7 * (i : Int)) ∧ 0 ≤ X ∧ X < 128 ^ i ∧ Aside0 (numR bs a (d + 1) i X = r) ∧ Aside0 (Moved w0 w wr g bs ((a + i : Nat) : Int) err)) (fun _ s _ => 100 - (intOf s).toNat)
  case atStart => exact ⟨0, 9, 0, rfl, rfl, rfl, by omega, by simp, HR, HM⟩
  case round =>
    clear HM HR
    obtain ⟨i, d, X, hid, rfl, rfl, hX0, hX1, HR, HM⟩ := hrel
    by_cases hlt : a + i < bs.length
    · obtain ⟨c, hc⟩ : ∃ c, c = rd bs ((a + i : Nat) : Int) := ⟨_, rfl⟩
      have hcr := bytes_rd hb (a + i)
      rw [← hc] at hcr
      have hr := HR.out
      simp only [numR] at hr
      rw [if_pos hlt, ← hc] at hr
      have HC := Aside0.mk hc
      have hn := fun w1 h1 h2 => next_some g bs (a + i) err w0 w1 h1 h2 hlt
      rw [← hc] at hn
      clear hc
      have HN := Aside0.mk hn
      clear hn
      by_cases hbad : (i = 9 ∧ c ≠ 1) ∨ (0 < i ∧ c = 0)
      · rw [if_pos hbad] at hr
        have HR2 := Aside0.mk hr
        clear hr HR
        cases b1 : (c == 0) <;> cases b2 : decide (0 < 7 * (i : Int)) <;> cases b3 : (7 * (i : Int) == 63) <;> cases b4 : decide (1 < c)
        all_goals first | (exfalso; simp only [beq_iff_eq, beq_eq_false_iff_ne, decide_eq_true_eq, decide_eq_false_iff_not] at b1 b2 b3 b4; omega) | skip
        all_goals (go_wp2_with (go_at_call 134; refine (HN.out _ HM.out.rd HM.out.below).mono ?_; rintro e w1 ⟨rfl, hm⟩; have HM1 := Aside0.mk (HM.out.trans hm); clear hm))
        all_goals exact ⟨rfl, .inr (by rw [← HR2.out]; exact ⟨by decide, rfl, _, HM1.out⟩)⟩
      · rw [if_neg hbad] at hr
        have hor := Nums2.or_step X c i hX0 hX1 hcr (by omega) (by omega)
        have hy0 : 0 ≤ X + c % 128 * 128 ^ i := by
          have h1 : (0 : Int) ≤ 128 ^ i := Int.le_of_lt (Int.pow_pos (by decide))
          have h2 : 0 ≤ c % 128 * 128 ^ i := Int.mul_nonneg (by omega) h1
          omega
        have hy1 : X + c % 128 * 128 ^ i < 128 ^ (i + 1) := by
          have h1 : (0 : Int) ≤ 128 ^ i := Int.le_of_lt (Int.pow_pos (by decide))
          have h2 : c % 128 * 128 ^ i ≤ 127 * 128 ^ i := Int.mul_le_mul_of_nonneg_right (by omega) h1
          have h3 : (128 : Int) ^ (i + 1) = 128 ^ i * 128 := Int.pow_succ ..
          omega
        by_cases hfin : c < 128
        · rw [if_pos hfin] at hr
          have b5 : decide (c < 128) = true := decide_eq_true hfin
          have hlow : c % 128 = c := by omega
          rw [hlow] at hor
          have HR2 := Aside0.mk hr
          clear hr HR
          cases b1 : (c == 0) <;> cases b2 : decide (0 < 7 * (i : Int)) <;> cases b3 : (7 * (i : Int) == 63) <;> cases b4 : decide (1 < c)
          all_goals first | (exfalso; simp only [beq_iff_eq, beq_eq_false_iff_ne, decide_eq_true_eq, decide_eq_false_iff_not] at b1 b2 b3 b4; omega) | skip
          all_goals (go_wp2_with (go_at_call 134; refine (HN.out _ HM.out.rd HM.out.below).mono ?_; rintro e w1 ⟨rfl, hm⟩; have HM1 := Aside0.mk (HM.out.trans hm); clear hm))
          all_goals (go_ret; exact .inl (by rw [← HR2.out]; exact ⟨rfl, rfl, HM1.out⟩))
        · rw [if_neg hfin] at hr
          have b5 : decide (c < 128) = false := decide_eq_false hfin
          have hlow : c % 128 = c - 128 := by omega
          rw [hlow] at hor hy0 hy1
          obtain ⟨d, rfl⟩ : ∃ d', d = d' + 1 := ⟨d - 1, by omega⟩
          have HR2 := Aside0.mk hr
          clear hr HR
          cases b1 : (c == 0) <;> cases b2 : decide (0 < 7 * (i : Int)) <;> cases b3 : (7 * (i : Int) == 63) <;> cases b4 : decide (1 < c)
          all_goals first | (exfalso; simp only [beq_iff_eq, beq_eq_false_iff_ne, decide_eq_true_eq, decide_eq_false_iff_not] at b1 b2 b3 b4; omega) | skip
          all_goals (go_wp2_with (go_at_call 134; refine (HN.out _ HM.out.rd HM.out.below).mono ?_; rintro e w1 ⟨rfl, hm⟩; have HM1 := Aside0.mk (HM.out.trans hm); clear hm))
          all_goals go_roundw
          all_goals first | (simp [intOf]; omega) | skip
          all_goals exact ⟨i + 1, d, _, by omega, rfl, by first | (congr 1; done) | (congr 1; push_cast; omega), hy0, hy1, HR2, HM1⟩
    · have hr := HR.out
      simp only [numR] at hr
      rw [if_neg hlt] at hr
      have HR2 := Aside0.mk hr
      clear hr HR
      go_wp2_with (go_at_call 134; refine (next_none g bs (a + i) err w0 _ HM.out.rd HM.out.below (by omega)).mono ?_; rintro e w1 ⟨rfl, hm⟩; have HM1 := Aside0.mk (HM.out.trans hm); clear hm)
      exact ⟨rfl, .inr (by rw [← HR2.out]; exact ⟨by decide, rfl, _, HM1.out⟩)⟩

theorem numR_range (bs : List Int) (a : Nat) (hb : Bytes bs) : ∀ (d i : Nat) (X : Int), i + d = 10 → 0 ≤ X → X < 128 ^ i → 0 ≤ (numR bs a d i X).1 ∧ (numR bs a d i X).1 < 18446744073709551616 ∧ ((numR bs a d i X).2.2 = 0 → a + (numR bs a d i X).2.1 ≤ bs.length) := by
  intro d
  induction d with
  | zero => intro i X _ _ _; simp [numR]
  | succ d ih =>
    intro i X hid h0 h1
    have hc := bytes_rd hb (a + i)
    have hp : (0 : Int) ≤ 128 ^ i := Int.le_of_lt (Int.pow_pos (by decide))
    have hp2 : (128 : Int) ^ (i + 1) = 128 ^ i * 128 := Int.pow_succ ..
    simp only [numR]
    split
    · split
      · simp
      · split
        · rename_i hlt hbad hfin
          simp only
          have h2 : rd bs ((a + i : Nat) : Int) * 128 ^ i ≤ 127 * 128 ^ i := Int.mul_le_mul_of_nonneg_right (by omega) hp
          have h3 : 0 ≤ rd bs ((a + i : Nat) : Int) * 128 ^ i := Int.mul_nonneg hc.1 hp
          refine ⟨by omega, ?_, fun _ => by omega⟩
          by_cases e : i = 9
          · subst e
            have h4 : rd bs ((a + 9 : Nat) : Int) = 1 := by omega
            rw [h4] at h2 h3 ⊢
            have : (128 : Int) ^ 9 = 9223372036854775808 := by decide
            omega
          · have h4 : (128 : Int) ^ (i + 1) ≤ 128 ^ 9 := by
              have : (128 : Nat) ^ (i + 1) ≤ 128 ^ 9 := Nat.pow_le_pow_right (by decide) (by omega)
              exact_mod_cast this
            have : (128 : Int) ^ 9 = 9223372036854775808 := by decide
            omega
        · rename_i hlt hbad hfin
          have h2 : (rd bs ((a + i : Nat) : Int) - 128) * 128 ^ i ≤ 127 * 128 ^ i := Int.mul_le_mul_of_nonneg_right (by omega) hp
          have h3 : 0 ≤ (rd bs ((a + i : Nat) : Int) - 128) * 128 ^ i := Int.mul_nonneg (by omega) hp
          exact ih (i + 1) _ (by omega) (by omega) (by omega)
    · simp
theorem num_range (bs : List Int) (a : Nat) (hb : Bytes bs) : 0 ≤ (num bs a).1 ∧ (num bs a).1 < 18446744073709551616 ∧ ((num bs a).2.2 = 0 → a + (num bs a).2.1 ≤ bs.length) := numR_range bs a hb 10 0 0 rfl (by omega) (by simp)

/-- A number that is at most so great. -/
def cnt (bs : List Int) (a : Nat) (most : Int) : Int × Nat × Int :=
  if (num bs a).2.2 = 0 then if (num bs a).1 > most then (0, 0, 5) else num bs a else (0, 0, (num bs a).2.2)
set_option maxHeartbeats 8000000 in
set_option maxRecDepth 100000 in
theorem count (g : Nat) (bs : List Int) (a : Nat) (err most : Int) (w0 w : World) (hI : Rd w0 w g bs a err) (hB : Below w0.heap.size w0 w) (hb : Bytes bs) (ha : a ≤ bs.length) (hm : 0 ≤ most ∧ most ≤ 9223372036854775807) :
    Calls Tryz.prog 102 #[.pointer (some ⟨g, 0, none⟩), .int .i64 most] w (Outcome w0 w g bs (.int .i64 (cnt bs a most).1) (a + (cnt bs a most).2.1) (cnt bs a most).2.2 err) := by
  have hr := num_range bs a hb
  have HN := Aside0.mk (number g bs a err w0 w hI hB hb ha)
  unfold cnt
  obtain ⟨⟨x, n, no⟩, hr0⟩ : ∃ r, r = num bs a := ⟨_, rfl⟩
  rw [← hr0] at hr HN ⊢
  clear hr0 hI
  simp only at hr HN ⊢
  by_cases h0 : no = 0
  · subst h0
    simp only [if_true]
    by_cases hx : x > most
    · rw [if_pos hx]
      have b1 : decide (most < x) = true := decide_eq_true hx
      go_enter Tryz.func102, Tryz.ntmps102
      go_wp2_with (go_at_call 132; refine HN.out.mono ?_; rintro e w1 (⟨_, rfl, hm1⟩ | ⟨h, _⟩); rotate_left; (exact absurd rfl h); have HM1 := Aside0.mk hm1; clear hm1)
      exact ⟨rfl, .inr ⟨by decide, rfl, _, HM1.out⟩⟩
    · rw [if_neg hx]
      have b1 : decide (most < x) = false := decide_eq_false hx
      go_enter Tryz.func102, Tryz.ntmps102
      go_wp2_with (go_at_call 132; refine HN.out.mono ?_; rintro e w1 (⟨_, rfl, hm1⟩ | ⟨h, _⟩); rotate_left; (exact absurd rfl h); have HM1 := Aside0.mk hm1; clear hm1)
      go_ret
      exact .inl ⟨rfl, rfl, HM1.out⟩
  · rw [if_neg h0]
    go_enter Tryz.func102, Tryz.ntmps102
    go_wp2_with (go_at_call 132; refine HN.out.mono ?_; rintro e w1 (⟨h, _⟩ | ⟨_, rfl, m, hm1⟩); (exact absurd h h0); have HM1 := Aside0.mk hm1; clear hm1)
    exact ⟨rfl, .inr ⟨h0, rfl, _, HM1.out⟩⟩
end Go.Proofs.YtjeaojolhdfpeaaGreat.Reader
