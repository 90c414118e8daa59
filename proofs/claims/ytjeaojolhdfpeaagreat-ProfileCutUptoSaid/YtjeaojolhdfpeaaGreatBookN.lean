/- Profile's book: New. -/
import Derived.Test.YtjeaojolhdfpeaaGreatBookB
import Derived.Test.YtjeaojolhdfpeaaGreatBookS
import Derived.Test.YtjeaojolhdfpeaaGreatWShare
import Derived.Maps.AppendAt
import Derived.Deep.DeepAppendRoom
namespace Go.Proofs.YtjeaojolhdfpeaaGreat.BookN
open Go.RowKit Go.Maps Go.Proofs.YtjeaojolhdfpeaaGreatW.PrintWords Go.Proofs.YtjeaojolhdfpeaaGreatW.PrintLast Go.Proofs.YtjeaojolhdfpeaaGreatW.PrintMore
open Go.Proofs.YtjeaojolhdfpeaaGreat.PProfileCut Go.Proofs.YtjeaojolhdfpeaaGreat.BookK Go.Proofs.YtjeaojolhdfpeaaGreat.BookS Go.Proofs.YtjeaojolhdfpeaaGreat.BookB
set_option linter.unusedVariables false
set_option linter.unusedSimpArgs false
attribute [local go_sem high] eqA51

/-- How many instructions function i has. -/
def cl (fs : List S76) (i : Nat) : Nat := (rd_T76 fs (i : Int)).f3.length
def tot (fs : List S76) : Nat → Nat
  | 0 => 0
  | i + 1 => tot fs i + cl fs i
theorem tot_le (fs : List S76) {i j : Nat} (h : i ≤ j) : tot fs i ≤ tot fs j := by
  induction h with
  | refl => exact Nat.le_refl _
  | step _ ih => exact Nat.le_trans ih (Nat.le_add_right _ _)
/-- The rows of the first i functions. -/
def newF (fs : List S76) (l : List (List S51)) (i : Nat) : List (List S51) := (List.range i).map fun a => (List.range (cl fs a)).map (gt l a)
/-- A function's row, where j places have been looked up. -/
def rowU (l : List (List S51)) (i n j : Nat) : List S51 := (List.range n).map fun q => if q < j then gt l i q else z51
theorem newF_succ (fs : List S76) (l : List (List S51)) (i : Nat) : newF fs l (i + 1) = newF fs l i ++ [(List.range (cl fs i)).map (gt l i)] := by simp [newF, List.range_succ]
theorem newF_len (fs : List S76) (l : List (List S51)) (i : Nat) : (newF fs l i).length = i := by simp [newF]
theorem rowU_zero (l : List (List S51)) (i n : Nat) : rowU l i n 0 = List.replicate n z51 := by
  apply List.ext_getElem?
  intro k
  by_cases h : k < n
  · simp [rowU, h]
  · simp [rowU, h]
theorem rowU_full (l : List (List S51)) (i n : Nat) : rowU l i n n = (List.range n).map (gt l i) := by
  apply List.map_congr_left
  intro q hq
  rw [if_pos (List.mem_range.1 hq)]
theorem rowU_len (l : List (List S51)) (i n j : Nat) : (rowU l i n j).length = n := by simp [rowU]
theorem rowU_same (l : List (List S51)) (i n j : Nat) (h : gt l i j = z51) : rowU l i n (j + 1) = rowU l i n j := by
  apply List.map_congr_left
  intro q _
  by_cases e : q = j
  · subst e
    rw [if_pos (by omega), if_neg (by omega), h]
  · by_cases e2 : q < j
    · rw [if_pos (by omega), if_pos e2]
    · rw [if_neg (by omega), if_neg e2]
theorem rowU_set (l : List (List S51)) (i n j : Nat) (h : j < n) : (rowU l i n j).set j (gt l i j) = rowU l i n (j + 1) := by
  apply List.ext_getElem?
  intro q
  rw [List.getElem?_set]
  by_cases e : j = q
  · subst e
    simp [rowU, h]
  · rw [if_neg e]
    by_cases hq : q < n
    · simp only [rowU, List.getElem?_map, List.getElem?_range hq, Option.map_some]
      by_cases e2 : q < j
      · rw [if_pos e2, if_pos (show q < j + 1 by omega)]
      · rw [if_neg e2, if_neg (show ¬ q < j + 1 by omega)]
    · simp [rowU, hq]
/-- What stands behind i functions and j places of the next. -/
structure NS (w : World) (A0 : Option Addr) (n0 c0 : Nat) (A1 : Option Addr) (n1 c1 : Nat) (A2 : Option Addr) (n2 c2 : Nat) (mx : Nat) (k j : Nat) (F : List (List S51)) (W : World) : Prop where
  b0 : W.heap[w.heap.size]? = some (.cells #[.slice A0 n0 c0, .slice A1 n1 c1] 33 (0, 0))
  b1 : W.heap[w.heap.size + 1]? = some (.cells #[.slice A2 n2 c2] 25 (0, 0))
  book : ∃ A c D S N, BkAt W S (w.heap.size + 1 + 1 + 1) (w.heap.size + 1 + 1) A c D F N ∧ N ≤ mx ∧ (∀ k, S k → w.heap.size + 1 + 1 ≤ k) ∧ ∀ b, j ≤ b → InR F k b → Maps.has D (kp k b) = false
  below : Below w.heap.size w W

theorem NS.turn {w : World} {A0 : Option Addr} {n0 c0 : Nat} {A1 : Option Addr} {n1 c1 : Nat} {A2 : Option Addr} {n2 c2 : Nat} {mx k j : Nat} {F : List (List S51)} {W W1 : World} (h : NS w A0 n0 c0 A1 n1 c1 A2 n2 c2 mx k j F W) (hb : Below W.heap.size W W1) : NS w A0 n0 c0 A1 n1 c1 A2 n2 c2 mx k j F W1 := by
  obtain ⟨A, c, D, S, N, h1, h2, h3⟩ := h.book
  exact ⟨blk_below h.b0 hb, blk_below h.b1 hb, ⟨A, c, D, S, N, h1.turn (Turn.of_below hb (fun _ => False)) (fun _ _ h => h), h2, h3⟩, below_step h.below hb⟩
theorem at_gt (l : List (List S51)) (i j : Nat) : profile_At.f l (i : Int) (j : Int) = some ((gt l i j).f0, (gt l i j).f1, (gt l i j).f2, (gt l i j).f3) := by
  have e3 : rd_L3 l (i : Int) = rw_ l i := rfl
  unfold profile_At.f
  rw [if_neg (by omega), e3]
  by_cases h1 : i < l.length
  · rw [if_neg (by omega), if_neg (by omega), if_pos (by omega), if_pos (by omega)]
    by_cases h2 : j < (rw_ l i).length
    · rw [if_neg (by omega), if_pos (by omega), if_pos (by omega)]
      rfl
    · rw [if_pos (by omega)]
      have : gt l i j = z51 := by simp [gt, List.getD_eq_getElem?_getD, List.getElem?_eq_none (Nat.not_lt.1 h2)]
      rw [this]
      rfl
  · rw [if_pos (by omega)]
    have : gt l i j = z51 := by
      have : rw_ l i = [] := by simp [rw_, List.getD_eq_getElem?_getD, List.getElem?_eq_none (Nat.not_lt.1 h1)]
      simp [gt, this]
    rw [this]
    rfl
theorem zero_test (s : S51) : (s.f0 == 0 && (s.f1 == 0 && (s.f2 == 0 && (s.f3 == 0)))) = true ↔ s = z51 := by
  cases s
  simp [z51]
theorem st_row (F : List (List S51)) (r : List S51) (j : Nat) (s : S51) : st (F ++ [r]) F.length j s = F ++ [r.set j s] := by
  unfold st
  rw [rw_snoc, if_pos rfl, List.set_append_right _ _ (Nat.le_refl _)]
  simp
theorem gt_row (F : List (List S51)) (r : List S51) (j : Nat) : gt (F ++ [r]) F.length j = r.getD j z51 := by
  unfold gt
  rw [rw_snoc, if_pos rfl]
theorem infoI : (Tryz.prog.info? 3).map (fun i => (i.zero, i.size, i.bytes)) = some (some (.int .i64 0), 1, 8) := by kernel_rfl
theorem NS.more {w : World} {A0 : Option Addr} {n0 c0 : Nat} {A1 : Option Addr} {n1 c1 : Nat} {A2 : Option Addr} {n2 c2 : Nat} {mx mx2 k j j2 : Nat} {F : List (List S51)} {W : World} (h : NS w A0 n0 c0 A1 n1 c1 A2 n2 c2 mx k j F W) (hm : mx ≤ mx2) (hj : j ≤ j2) : NS w A0 n0 c0 A1 n1 c1 A2 n2 c2 mx2 k j2 F W := by
  obtain ⟨A, c, D, S, N, h1, h2, h3, h4⟩ := h.book
  exact ⟨h.b0, h.b1, ⟨A, c, D, S, N, h1, Nat.le_trans h2 hm, h3, fun b hb => h4 b (Nat.le_trans hj hb)⟩, h.below⟩
def r12_5_T : Bool × List (List Nat × List Nat) := (true, [([], []), ([], []), ([1], [1]), ([2], [2]), ([3], [3]), ([], []), ([5], [5]), ([6], [6]), ([7], [7]), ([4, 8], [4, 8]), ([0, 0, 1, 2, 3, 4, 5, 6, 7, 8, 9], [0]), ([10, 0, 1, 2, 3, 4, 5, 6, 7, 8, 9], [10]), ([11, 9, 9, 0, 1, 2, 3, 4, 5, 6, 7, 8, 9], [9, 11])])
def r12_5_B : List Nat := [0, 0, 2, 6, 14, 0, 32, 96, 224, 510, 1023, 2047, 4095]
theorem r12_5_tab : rtab .any (opsOf Tryz.f12 5) = r12_5_T := by kernel_rfl
theorem r12_5_bits : waitsOk r12_5_T.2 r12_5_B = true := by kernel_rfl
def r12_12_T : Bool × List (List Nat × List Nat) := (true, [([], []), ([0], [0]), ([1], [1]), ([], []), ([3], [3]), ([2, 4], [2, 4])])
def r12_12_B : List Nat := [0, 1, 3, 0, 8, 31]
theorem r12_12_tab : rtab .any (opsOf Tryz.f12 12) = r12_12_T := by kernel_rfl
theorem r12_12_bits : waitsOk r12_12_T.2 r12_12_B = true := by kernel_rfl
set_option maxHeartbeats 8000000 in
set_option maxRecDepth 100000 in
theorem new_calls (A0 : Option Addr) (c0 n0 : Nat) (A1 : Option Addr) (c1 : Nat) (fs : List S76) (A2 : Option Addr) (c2 : Nat) (l : List (List S51)) (w : World) (hf : Kd.C k76 w A1 fs.length fs) (hr : Kd.C (Kd.slice 51 k51) w A2 l.length l) (hc2 : l.length ≤ c2)
    (hl : fs.length ≤ 1048576) (ht : tot fs fs.length ≤ 1048576) :
    Calls Tryz.prog 12 #[.agg #[.slice A0 n0 c0, .slice A1 fs.length c1], .agg #[.slice A2 l.length c2]] w fun e w' => ∃ bp S, e = .returned (.pointer (some ⟨bp, 0, none⟩)) ∧ Bk w' S bp (newF fs l fs.length) (tot fs fs.length) ∧ (∀ k, S k → w.heap.size ≤ k) ∧ Below w.heap.size w w' := by
  have hmm := @run_makeMap Tryz.prog
  have HF := Aside0.mk hf
  have HR := Aside0.mk hr
  have HT := Aside0.mk ht
  clear hf hr ht
  go_enter Tryz.func12, Tryz.ntmps12
  go_wp2_with fail
  have H0 : Aside0 (NS w A0 n0 c0 A1 fs.length c1 A2 l.length c2 (tot fs 0) 0 0 (newF fs l 0) ((((w.alloc (.cells #[.slice A0 n0 c0, .slice A1 fs.length c1] 33)).alloc (.cells #[.slice A2 l.length c2] 25)).alloc (.map #[] 0)).alloc (.cells #[.slice none 0 0, .map (some (w.heap.size + 1 + 1))] 79))) := ⟨by
    refine ⟨blk_alloc (blk_alloc (blk_alloc (blk_new _ _) _) _) _, ?_, ⟨none, 0, .map [], fun k => w.heap.size + 1 + 1 ≤ k, 0, ?_, Nat.le_refl _, fun k hk => hk, fun b _ hb => absurd hb.1 (by rw [newF_len]; omega)⟩, below_alloc (below_alloc (below_alloc (below_alloc (Below.refl _ _) _) _) _) _⟩
    · have h1 := blk_alloc (blk_alloc (blk_new (w.alloc (.cells #[.slice A0 n0 c0, .slice A1 fs.length c1] 33)) (.cells #[.slice A2 l.length c2] 25)) (.map #[] 0)) (.cells #[.slice none 0 0, .map (some (w.heap.size + 1 + 1))] 79)
      simpa using h1
    · refine BkAt.start (w := w) ?_ ?_ (by show _ ≤ _; omega) (Nat.le_refl _)
      · have h1 := blk_new (((w.alloc (.cells #[.slice A0 n0 c0, .slice A1 fs.length c1] 33)).alloc (.cells #[.slice A2 l.length c2] 25)).alloc (.map #[] 0)) (.cells #[.slice none 0 0, .map (some (w.heap.size + 1 + 1))] 79)
        simpa using h1
      · have h1 := (World.ownsMap_made (H := Unit) ((w.alloc (.cells #[.slice A0 n0 c0, .slice A1 fs.length c1] 33)).alloc (.cells #[.slice A2 l.length c2] 25)) Tryz.prog 90 rp).alloc (.cells #[.slice none 0 0, .map (some (w.heap.size + 1 + 1))] 79)
        simpa using h1⟩
  go_loopw [17] (fun i wr => ∃ k : Nat, k ≤ fs.length ∧ i = .int .i64 k ∧ Aside0 (NS w A0 n0 c0 A1 fs.length c1 A2 l.length c2 (tot fs k) k 0 (newF fs l k) wr)) (fun i _ => fs.length - (intOf i).toNat)
  case atStart => exact ⟨0, by omega, rfl, H0⟩
  case round =>
    clear H0
    obtain ⟨k, hk, rfl, HI⟩ := hrel
    by_cases hlt : k < fs.length
    · obtain ⟨ad, A3, c3, A4, c4, rfl, g0, g1, g2, g3, g4, hl3, hr3, _, _⟩ := at_T76 HF.out (k : Int) (by omega) (by omega)
      simp only [Int.toNat_natCast] at g0 g1 g2 g3 g4
      have hq0 := (HI.out.below.cell (World.block_lt_of_cell? w _ g0)).trans g0
      have hq1 := (HI.out.below.cell (World.block_lt_of_cell? w _ g1)).trans g1
      have hq2 := (HI.out.below.cell (World.block_lt_of_cell? w _ g2)).trans g2
      have hq3 := (HI.out.below.cell (World.block_lt_of_cell? w _ g3)).trans g3
      have hq4 := (HI.out.below.cell (World.block_lt_of_cell? w _ g4)).trans g4
      have hcl : (rd_T76 fs (k : Int)).f3.length = cl fs k := rfl
      rw [hcl] at hq3 hl3
      clear g0 g1 g2 g3 g4 hcl hr3
      generalize (rd_T76 fs (k : Int)).f0 = x0 at hq0
      generalize (rd_T76 fs (k : Int)).f1 = x1 at hq1
      generalize (rd_T76 fs (k : Int)).f2 = x2 at hq2
      generalize (rd_T76 fs (k : Int)).f4.length = x4 at hq4
      go_wp2_with fail
      have HB7 : Aside0 ((wr.alloc (.cells #[.string x0, .int .i64 x1, .int .i64 x2, .slice A3 (cl fs k) c3, .slice A4 x4 c4] 76)).heap[wr.heap.size]? = some (.cells #[.string x0, .int .i64 x1, .int .i64 x2, .slice A3 (cl fs k) c3, .slice A4 x4 c4] 76 (0, 0))) := ⟨blk_new _ _⟩
      have hg7 : w.heap.size + 1 + 1 + 1 + 1 ≤ wr.heap.size := by
        obtain ⟨A, c, D, S, N, h1, _, _, _⟩ := HI.out.book
        have := blk_lt h1.hb
        omega
      replace HI := Aside0.mk (HI.out.turn (below_alloc (Below.refl _ _) (.cells #[.string x0, .int .i64 x1, .int .i64 x2, .slice A3 (cl fs k) c3, .slice A4 x4 c4] 76)))
      clear hq0 hq1 hq2 hq3 hq4
      generalize wr.alloc (.cells #[.string x0, .int .i64 x1, .int .i64 x2, .slice A3 (cl fs k) c3, .slice A4 x4 c4] 76) = W1 at HI HB7 ⊢
      generalize wr.heap.size = g7 at HB7 hg7 ⊢
      obtain ⟨A, c, D, S, N, hBk, hN, hS, _⟩ := HI.out.book
      have HBk := Aside0.mk hBk
      have HSn := Aside0.mk hS
      have HNn := Aside0.mk hN
      clear hBk hS hN
      replace HI := Aside0.mk (HI.out.turn (below_drew (Below.refl _ _)))
      replace HBk := Aside0.mk (HBk.out.turn (Turn.of_below (below_drew (Below.refl _ W1)) (fun _ => False)) (fun _ _ h => h))
      replace HB7 : Aside0 (W1.drew.heap[g7]? = some (.cells #[.string x0, .int .i64 x1, .int .i64 x2, .slice A3 (cl fs k) c3, .slice A4 x4 c4] 76 (0, 0))) := ⟨HB7.out⟩
      refine start_ (n := 13) (S := fun w' => w'.cell? ⟨w.heap.size + 1 + 1 + 1, 0, none⟩ = some (.slice A (newF fs l k).length c) ∧ w'.cell? ⟨g7, 3, none⟩ = some (.slice A3 (cl fs k) c3)) (ds := [12]) #[false, false, false, false, false, false, false, false, false, false, false, false, false] (by kernel_rfl) rfl rfl ⟨(blk_cell HBk.out.hb 0).trans rfl, (blk_cell HB7.out 3).trans rfl⟩ (fun hHeld => ?_)
      refine with_tabW r12_5_tab r12_5_bits (fun HT_ HW_ => ?_)
      generalize World.drew W1 = W2 at HI HBk HB7 hHeld ⊢
      refine pure_ (i := 0) (N := some 22) (v := ?_) (a' := ?_) #[true, false, false, false, false, false, false, false, false, false, false, false, false] rfl rfl (any_of HT_.out (by kernel_rfl)) (fun _ _ _ h => h) (Or.inl ⟨by rfl, ?_⟩) ?_ ?_
      rotate_left
      · intro w'
        go_simp
        with_reducible rfl
      rotate_left
      · simp only [Act.put, List.setIfInBounds_toArray, List.set_cons_zero, List.set_cons_succ, i64_w, i32_w]
        rfl
      refine pure_ (i := 1) (N := some 23) (v := ?_) (a' := ?_) #[true, true, false, false, false, false, false, false, false, false, false, false, false] rfl rfl (any_of HT_.out (by kernel_rfl)) (fun _ _ _ h => h) (Or.inl ⟨by rfl, ?_⟩) ?_ ?_
      rotate_left
      · intro w'
        go_simp
        with_reducible rfl
      rotate_left
      · simp only [Act.put, List.setIfInBounds_toArray, List.set_cons_zero, List.set_cons_succ, i64_w, i32_w]
        rfl
      refine pure_ (i := 2) (N := some 24) (v := ?_) (a' := ?_) #[true, true, true, false, false, false, false, false, false, false, false, false, false] rfl rfl (any_of HT_.out (by kernel_rfl)) (fun _ _ _ h => h) (Or.inl ⟨by rfl, ?_⟩) ?_ ?_
      rotate_left
      · intro w'
        go_simp
        with_reducible rfl
      rotate_left
      · simp only [Act.put, List.setIfInBounds_toArray, List.set_cons_zero, List.set_cons_succ, i64_w, i32_w]
        rfl
      refine pure_ (i := 3) (N := some 25) (v := ?_) (a' := ?_) #[true, true, true, true, false, false, false, false, false, false, false, false, false] rfl rfl (any_of HT_.out (by kernel_rfl)) (fun _ _ _ h => h) (Or.inl ⟨by rfl, ?_⟩) ?_ ?_
      rotate_left
      · intro w'
        go_simp
        with_reducible rfl
      rotate_left
      · simp only [Act.put, List.setIfInBounds_toArray, List.set_cons_zero, List.set_cons_succ, i64_w, i32_w]
        rfl
      refine pure_ (i := 5) (N := some 27) (v := ?_) (a' := ?_) #[true, true, true, true, false, true, false, false, false, false, false, false, false] rfl rfl (any_of HT_.out (by kernel_rfl)) (fun _ _ _ h => h) (Or.inl ⟨by rfl, ?_⟩) ?_ ?_
      rotate_left
      · intro w'
        go_simp
        with_reducible rfl
      rotate_left
      · simp only [Act.put, List.setIfInBounds_toArray, List.set_cons_zero, List.set_cons_succ, i64_w, i32_w]
        rfl
      refine take_ (i := 4) (N := some 26) (v := ?_) (a' := ?_) #[true, true, true, true, true, true, false, false, false, false, false, false, false] rfl rfl (take_ofW HT_.out HW_.out (by kernel_rfl)) (fun _ _ _ h => h) (Or.inl ⟨by rfl, ?_⟩) hHeld ?_ ?_
      rotate_left
      · rintro w' ⟨s0, s1⟩
        go_simp
        with_reducible rfl
      rotate_left
      · simp only [Act.put, List.setIfInBounds_toArray, List.set_cons_zero, List.set_cons_succ, i64_w, i32_w]
        rfl
      refine take_ (i := 6) (N := some 28) (v := ?_) (a' := ?_) #[true, true, true, true, true, true, true, false, false, false, false, false, false] rfl rfl (take_ofW HT_.out HW_.out (by kernel_rfl)) (fun _ _ _ h => h) (Or.inl ⟨by rfl, ?_⟩) hHeld ?_ ?_
      rotate_left
      · rintro w' ⟨s0, s1⟩
        go_simp
        with_reducible rfl
      rotate_left
      · simp only [Act.put, List.setIfInBounds_toArray, List.set_cons_zero, List.set_cons_succ, i64_w, i32_w]
        rfl
      refine pure_ (i := 7) (N := some 29) (v := ?_) (a' := ?_) #[true, true, true, true, true, true, true, true, false, false, false, false, false] rfl rfl (any_of HT_.out (by kernel_rfl)) (fun _ _ _ h => h) (Or.inl ⟨by rfl, ?_⟩) ?_ ?_
      rotate_left
      · intro w'
        go_simp
        with_reducible rfl
      rotate_left
      · simp only [Act.put, List.setIfInBounds_toArray, List.set_cons_zero, List.set_cons_succ, i64_w, i32_w]
        rfl
      refine one_ (i := 8) (N := some 30) #[true, true, true, true, true, true, true, true, true, false, false, false, false] rfl rfl (one_of HT_.out (by kernel_rfl)) (by decide) (fun K hK => ?_)
      refine value_ (w1 := ?_) (v := ?_) (by rfl) rfl ?_ ?_
      rotate_left 2
      · go_simp
        constructor
        · rfl
        · rfl
      refine hK.out _ _ ⟨(blk_cell (blk_alloc HBk.out.hb _) 0).trans rfl, (blk_cell (blk_alloc HB7.out _) 3).trans rfl⟩ (fun hHeld => ?_)
      clear hK K
      refine norm_ (a' := ?_) ?_ ?_
      rotate_left
      · show Act.put _ (some 30) _ = _
        simp only [Act.put, List.setIfInBounds_toArray, List.set_cons_zero, List.set_cons_succ, i64_w, i32_w]
        rfl
      refine one_ (i := 9) (N := some 31) #[true, true, true, true, true, true, true, true, true, true, false, false, false] rfl rfl (one_of HT_.out (by kernel_rfl)) (by decide) (fun K hK => ?_)
      refine Kd.R_append_step (Kd.int .i64) (w0 := w) w.heap.size (by rfl) (.tmp 26) (.tmp 30) 60 3 (.int .i64 0) 8 rfl Tryz.underlying60 infoI rfl (by decide) (by omega) (.slice A (newF fs l k).length c) ((newF fs l k).map fun r => (r.length : Int)) (cl fs k : Int) [.int .i64 (cl fs k)] (fun k_ => w.heap.size ≤ k_) (fun _ => False) rfl rfl rfl (fun _ hk => hk.elim) (fun k_ hk => Nat.le_trans HI.out.below.size hk)
        (Kd.R_raise (b := 0) (b' := w.heap.size) (fun _ _ _ _ h => h) (Kd.R_mono HBk.out.sizes (fun k_ hk => by have := HSn.out k_ hk; omega)) (fun k_ hk => by have := HSn.out k_ (HBk.out.sizes.1 k_ hk); omega)) HI.out.below HI.out.below.size (by rw [List.length_map, newF_len]; omega) ?_
      intro v2 w2 ho hb hg hat
      obtain ⟨A5, c5, rfl⟩ := Kd.R_slice ho
      have hlen5 : ((newF fs l k).map (fun r => (r.length : Int)) ++ [(cl fs k : Int)]).length = (newF fs l k).length + 1 := by simp
      rw [hlen5] at ho hat ⊢
      have HO := Aside0.mk (HBk.out.row2 (cl fs k) (by have := HT.out; have h2 := tot_le fs (show k + 1 ≤ fs.length from hlt); simp only [tot] at h2; omega) (by rw [newF_len]; omega) rfl ho hg hat)
      have HL5 := Aside0.mk hlen5
      have nb7 : some (w.heap.size + 1 + 1 + 1) ≠ (Value.slice A (newF fs l k).length c).ownBlock := Kd.R_ne HBk.out.sizes HBk.out.hb (by decide)
      have n77 : some g7 ≠ (Value.slice A (newF fs l k).length c).ownBlock := Kd.R_ne HBk.out.sizes HB7.out (by decide)
      have HBp := Aside0.mk (blk_grown HBk.out.hb hg nb7)
      replace HB7 := Aside0.mk (blk_grown HB7.out hg n77)
      have HI2 := Aside0.mk hb
      clear ho hb hg hat hlen5 nb7 n77
      refine hK.out _ _ ⟨(blk_cell HBp.out 0).trans rfl, (blk_cell HB7.out 3).trans rfl⟩ (fun hHeld => ?_)
      clear hK K
      refine norm_ (a' := ?_) ?_ ?_
      rotate_left
      · show Act.put _ (some 31) _ = _
        simp only [Act.put, List.setIfInBounds_toArray, List.set_cons_zero, List.set_cons_succ, i64_w, i32_w]
        rfl
      refine pure_ (i := 10) (N := some 32) (v := ?_) (a' := ?_) #[true, true, true, true, true, true, true, true, true, true, true, false, false] rfl rfl (any_of HT_.out (by kernel_rfl)) (fun _ _ _ h => h) (Or.inl ⟨by rfl, ?_⟩) ?_ ?_
      rotate_left
      · intro w'
        go_simp
        with_reducible rfl
      rotate_left
      · simp only [Act.put, List.setIfInBounds_toArray, List.set_cons_zero, List.set_cons_succ, i64_w, i32_w]
        rfl
      refine pure_ (i := 11) (N := some 33) (v := ?_) (a' := ?_) #[true, true, true, true, true, true, true, true, true, true, true, true, false] rfl rfl (any_of HT_.out (by kernel_rfl)) (fun _ _ _ h => h) (Or.inl ⟨by rfl, ?_⟩) ?_ ?_
      rotate_left
      · intro w'
        go_simp
        with_reducible rfl
      rotate_left
      · simp only [Act.put, List.setIfInBounds_toArray, List.set_cons_zero, List.set_cons_succ, i64_w, i32_w]
        rfl
      refine last_ (i := 12) (N := none) #[true, true, true, true, true, true, true, true, true, true, true, true, true] rfl rfl (one_of HT_.out (by kernel_rfl)) (by decide) (fun K hK => ?_)
      have hs3 : w2.cell? ⟨w.heap.size + 1 + 1 + 1, 0, none⟩ = some (.slice A (newF fs l k).length c) := (blk_cell HBp.out 0).trans rfl
      have hfs3 := blk_frozen HBp.out 0
      refine skip_ (w1 := ?_) (by rfl) rfl ?_ ?_
      rotate_left
      · go_simp
        rfl
      refine hK.out _ _ ?_
      clear hK K
      refine done_ (done_of HT_.out (by kernel_rfl)) ?_
      clear hs3 hfs3 hHeld
      have HI3 : Aside0 (NS w A0 n0 c0 (some ad) fs.length c1 A2 l.length c2 (tot fs k + 0) k 0 (newF fs l k ++ [rowU l k (cl fs k) 0]) (w2.setCell ⟨w.heap.size + 1 + 1 + 1, 0, none⟩ (.slice A5 ((newF fs l k).length + 1) c5))) := ⟨by
        have t := HO.out.2
        refine ⟨t.heap HI.out.b0 (fun e => by have := HSn.out _ e; omega), t.heap HI.out.b1 (fun e => by have := HSn.out _ e; omega), ⟨A5, c5, D, _, N, by rw [rowU_zero]; exact HO.out.1, HNn.out, fun q hq => ?_, fun b _ hb => HBk.out.fresh (by rw [newF_len]; exact Nat.le_refl _) (by omega) ?_⟩, HI.out.below.trans (t.below (fun q hq => by have := HSn.out q hq; omega) HI.out.below.size)⟩
        · rcases hq with hq | hq
          · exact HSn.out q hq
          · have h1 := blk_lt HBk.out.hb
            omega
        · have h1 := HO.out.1.len.2 k
          rw [← rowU_zero l k (cl fs k)] at h1
          have h2 := hb.2
          omega⟩
      replace HB7 := Aside0.mk (blk_far HB7.out (p := ⟨w.heap.size + 1 + 1 + 1, 0, none⟩) (by show g7 ≠ w.heap.size + 1 + 1 + 1; omega) (.slice A5 ((newF fs l k).length + 1) c5))
      clear HO HBp HI HBk HSn HNn HI2 HL5
      generalize w2.setCell ⟨w.heap.size + 1 + 1 + 1, 0, none⟩ (.slice A5 ((newF fs l k).length + 1) c5) = W3 at HI3 HB7 ⊢
      have hc7 : W3.cell? ⟨g7, 3, none⟩ = some (.slice A3 (cl fs k) c3) := (blk_cell HB7.out 3).trans rfl
      go_wp2_with fail
      clear hc7
      go_loopw [37] (fun i wi => ∃ j : Nat, j ≤ cl fs k ∧ i = .int .i64 j ∧ Aside0 (NS w A0 n0 c0 (some ad) fs.length c1 A2 l.length c2 (tot fs k + j) k j (newF fs l k ++ [rowU l k (cl fs k) j]) wi)) (fun i _ => cl fs k - (intOf i).toNat)
      case atStart => exact ⟨0, by omega, rfl, HI3⟩
      case round =>
        clear HI3 HB7
        obtain ⟨j, hj, rfl, HI⟩ := hrel
        have hcl : cl fs k ≤ 1048576 := by have := HT.out; have h2 := tot_le fs (show k + 1 ≤ fs.length from hlt); simp only [tot] at h2; omega
        by_cases hjl : j < cl fs k
        · have hc1 : wr.cell? ⟨w.heap.size + 1, 0, none⟩ = some (.slice A2 l.length c2) := (blk_cell HI.out.b1 0).trans rfl
          go_wp2_with fail
          clear hc1
          obtain ⟨s, hs⟩ : ∃ s, s = gt l k j := ⟨_, rfl⟩
          have hat := at_gt l k j
          rw [← hs] at hat
          have HAT := Aside0.mk hat
          have HGs := Aside0.mk hs
          clear hat hs
          refine (profile_At.calls A2 c2 l k j s.f0 s.f1 s.f2 s.f3 _ (Kd.C_below HR.out HI.out.below) hc2 HAT.out).mono ?_
          rintro e w1 ⟨rfl, hb⟩
          replace HI := Aside0.mk (HI.out.turn hb)
          clear hb HAT
          by_cases hz : s = z51
          · subst hz
            go_wp2_with fail
            go_roundw
            case rel =>
              refine ⟨j + 1, by omega, by go_num, ⟨?_⟩⟩
              have h1 := HI.out.turn (below_alloc (Below.refl _ _) (.cells #[.int .i64 0, .int .u16 0, .int .u16 0, .int .i64 0] 51))
              rw [← rowU_same l k (cl fs k) j HGs.out.symm] at h1
              exact h1.more (by omega) (by omega)
            case measure => simp [intOf]; omega
          · have hz2 : (s.f0 == 0 && (s.f1 == 0 && (s.f2 == 0 && (s.f3 == 0)))) = false := by
              cases h : (s.f0 == 0 && (s.f1 == 0 && (s.f2 == 0 && (s.f3 == 0)))) with
              | false => rfl
              | true => exact absurd ((zero_test s).1 h) hz
            go_wp2_with fail
            clear hz2
            obtain ⟨A6, c6, D6, S6, N6, hBk0, hN6, hS6, hab6⟩ := HI.out.book
            have HAB6 := Aside0.mk hab6
            clear hab6
            have hBk6 := hBk0.shrink
            have hkn : k = (newF fs l k).length := (newF_len fs l k).symm
            have hin6 : InR (newF fs l k ++ [rowU l k (cl fs k) j]) k j := by
              refine ⟨by rw [List.length_append, newF_len, List.length_singleton]; omega, ?_⟩
              rw [rw_snoc, if_pos hkn, rowU_len]
              exact hjl
            have hg6 : gt (newF fs l k ++ [rowU l k (cl fs k) j]) k j = z51 := by
              have h1 := gt_row (newF fs l k) (rowU l k (cl fs k) j) j
              rw [← hkn] at h1
              rw [h1]
              simp [rowU, List.getD_eq_getElem?_getD, hjl]
            have hst6 : st (newF fs l k ++ [rowU l k (cl fs k) j]) k j s = newF fs l k ++ [rowU l k (cl fs k) (j + 1)] := by
              have h1 := st_row (newF fs l k) (rowU l k (cl fs k) j) j s
              rw [← hkn] at h1
              rw [h1, HGs.out, rowU_set l k (cl fs k) j hjl]
            have hB9 : ((w1.alloc (.cells #[.int .i64 s.f0, .int .u16 s.f1, .int .u16 s.f2, .int .i64 s.f3] 51)).alloc (.cells #[.int .i64 0, .int .u16 s.f1, .int .u16 s.f2, .int .i64 s.f3] 87)).heap[w1.heap.size]? = some (.cells #[.int .i64 s.f0, .int .u16 s.f1, .int .u16 s.f2, .int .i64 s.f3] 51 (0, 0)) := blk_alloc (blk_new _ _) _
            have hBq : ((w1.alloc (.cells #[.int .i64 s.f0, .int .u16 s.f1, .int .u16 s.f2, .int .i64 s.f3] 51)).alloc (.cells #[.int .i64 0, .int .u16 s.f1, .int .u16 s.f2, .int .i64 s.f3] 87)).heap[w1.heap.size + 1]? = some (.cells #[.int .i64 0, .int .u16 s.f1, .int .u16 s.f2, .int .i64 s.f3] 87 (0, 0)) := by
              have h1 := blk_new (w1.alloc (.cells #[.int .i64 s.f0, .int .u16 s.f1, .int .u16 s.f2, .int .i64 s.f3] 51)) (.cells #[.int .i64 0, .int .u16 s.f1, .int .u16 s.f2, .int .i64 s.f3] 87)
              simpa using h1
            have hw4 : Below w1.heap.size w1 ((w1.alloc (.cells #[.int .i64 s.f0, .int .u16 s.f1, .int .u16 s.f2, .int .i64 s.f3] 51)).alloc (.cells #[.int .i64 0, .int .u16 s.f1, .int .u16 s.f2, .int .i64 s.f3] 87)) := below_alloc (below_alloc (Below.refl _ _) _) _
            have hw1 : w.heap.size + 1 + 1 + 1 < w1.heap.size := blk_lt hBk0.hb
            have HT4 := Aside0.mk (below_drew hw4)
            have HB9 : Aside0 (((w1.alloc (.cells #[.int .i64 s.f0, .int .u16 s.f1, .int .u16 s.f2, .int .i64 s.f3] 51)).alloc (.cells #[.int .i64 0, .int .u16 s.f1, .int .u16 s.f2, .int .i64 s.f3] 87)).drew.heap[w1.heap.size]? = some (.cells #[.int .i64 s.f0, .int .u16 s.f1, .int .u16 s.f2, .int .i64 s.f3] 51 (0, 0))) := ⟨hB9⟩
            have HBq : Aside0 (((w1.alloc (.cells #[.int .i64 s.f0, .int .u16 s.f1, .int .u16 s.f2, .int .i64 s.f3] 51)).alloc (.cells #[.int .i64 0, .int .u16 s.f1, .int .u16 s.f2, .int .i64 s.f3] 87)).drew.heap[w1.heap.size + 1]? = some (.cells #[.int .i64 0, .int .u16 s.f1, .int .u16 s.f2, .int .i64 s.f3] 87 (0, 0))) := ⟨hBq⟩
            have HBk6 := Aside0.mk hBk6
            have HB0 := Aside0.mk hBk0
            have HN6 := Aside0.mk hN6
            have HS6 := Aside0.mk hS6
            have HIN6 := Aside0.mk hin6
            have HG6 := Aside0.mk hg6
            have HST6 := Aside0.mk hst6
            clear hkn hB9 hBq hw4 hBk6 hBk0 hN6 hS6 hin6 hg6 hst6
            generalize (w1.alloc (.cells #[.int .i64 s.f0, .int .u16 s.f1, .int .u16 s.f2, .int .i64 s.f3] 51)).alloc (.cells #[.int .i64 0, .int .u16 s.f1, .int .u16 s.f2, .int .i64 s.f3] 87) = W4 at HT4 HB9 HBq ⊢
            refine start_ (n := 6) (S := fun w' => w'.cell? ⟨w1.heap.size, 0, none⟩ = some (.int .i64 s.f0)) (ds := []) #[false, false, false, false, false, false] (by kernel_rfl) rfl rfl ((blk_cell HB9.out 0).trans rfl) (fun hHeld => ?_)
            refine with_tabW r12_12_tab r12_12_bits (fun HT_ HW_ => ?_)
            generalize World.drew W4 = W5 at HT4 HB9 HBq hHeld ⊢
            refine pure_ (i := 0) (N := some 55) (v := ?_) (a' := ?_) #[true, false, false, false, false, false] rfl rfl (any_of HT_.out (by kernel_rfl)) (fun _ _ _ h => h) (Or.inl ⟨by rfl, ?_⟩) ?_ ?_
            rotate_left
            · intro w'
              go_simp
              with_reducible rfl
            rotate_left
            · simp only [Act.put, List.setIfInBounds_toArray, List.set_cons_zero, List.set_cons_succ, i64_w, i32_w]
              rfl
            refine pure_ (i := 1) (N := some 56) (v := ?_) (a' := ?_) #[true, true, false, false, false, false] rfl rfl (any_of HT_.out (by kernel_rfl)) (fun _ _ _ h => h) (Or.inl ⟨by rfl, ?_⟩) ?_ ?_
            rotate_left
            · intro w'
              go_simp
              with_reducible rfl
            rotate_left
            · simp only [Act.put, List.setIfInBounds_toArray, List.set_cons_zero, List.set_cons_succ, i64_w, i32_w]
              rfl
            refine pure_ (i := 2) (N := some 57) (v := ?_) (a' := ?_) #[true, true, true, false, false, false] rfl rfl (any_of HT_.out (by kernel_rfl)) (fun _ _ _ h => h) (Or.inl ⟨by rfl, ?_⟩) ?_ ?_
            rotate_left
            · intro w'
              go_simp
              with_reducible rfl
            rotate_left
            · simp only [Act.put, List.setIfInBounds_toArray, List.set_cons_zero, List.set_cons_succ, i64_w, i32_w]
              rfl
            refine pure_ (i := 3) (N := some 58) (v := ?_) (a' := ?_) #[true, true, true, true, false, false] rfl rfl (any_of HT_.out (by kernel_rfl)) (fun _ _ _ h => h) (Or.inl ⟨by rfl, ?_⟩) ?_ ?_
            rotate_left
            · intro w'
              go_simp
              with_reducible rfl
            rotate_left
            · simp only [Act.put, List.setIfInBounds_toArray, List.set_cons_zero, List.set_cons_succ, i64_w, i32_w]
              rfl
            refine take_ (i := 4) (N := some 59) (v := ?_) (a' := ?_) #[true, true, true, true, true, false] rfl rfl (take_ofW HT_.out HW_.out (by kernel_rfl)) (fun _ _ _ h => h) (Or.inl ⟨by rfl, ?_⟩) hHeld ?_ ?_
            rotate_left
            · rintro w' s0
              go_simp
              with_reducible rfl
            rotate_left
            · simp only [Act.put, List.setIfInBounds_toArray, List.set_cons_zero, List.set_cons_succ, i64_w, i32_w]
              rfl
            refine one_ (i := 5) (N := some 60) #[true, true, true, true, true, true] rfl rfl (one_of HT_.out (by kernel_rfl)) (by decide) (fun K hK => ?_)
            refine goes_ Tryz.func35 (by kernel_rfl) rfl #[.pointer (some ⟨w1.heap.size + 1, 0, none⟩), .int .i64 s.f0] (by rfl) rfl rfl (by (try simp only [List.map_toArray, List.map_cons, List.map_nil]); first | done | rfl) ?_
            refine (store_calls (w1.heap.size + 1) s.f0 _ W5 ((blk_cell HBq.out 0).trans rfl) (blk_frozen HBq.out 0)).mono ?_
            rintro e w6 ⟨rfl, rfl⟩
            refine ⟨_, rfl, ?_⟩
            refine hK.out _ _ ((blk_cell (blk_far HB9.out (p := ⟨w1.heap.size + 1, 0, none⟩) (by show w1.heap.size ≠ w1.heap.size + 1; omega) _) 0).trans rfl) (fun hHeld => ?_)
            clear hK K
            refine norm_ (a' := ?_) ?_ ?_
            rotate_left
            · show Act.put _ (some 60) _ = _
              simp only [Act.put, List.setIfInBounds_toArray, List.set_cons_zero, List.set_cons_succ, i64_w, i32_w]
              rfl
            refine done_ (done_of HT_.out (by kernel_rfl)) ?_
            clear hHeld
            have HBq6 := Aside0.mk (blk_put HBq.out 0 (.int .i64 s.f0) (cs' := spc s) rfl)
            have t5 : Turn w1 (W5.setCell ⟨w1.heap.size + 1, 0, none⟩ (.int .i64 s.f0)) (fun q => q = w1.heap.size + 1) := (Turn.of_below HT4.out _).then_ (Turn.set W5 ⟨w1.heap.size + 1, 0, none⟩ _ (S := fun q => q = w1.heap.size + 1) rfl) (fun q hq => .inl hq)
            have HBk7 := Aside0.mk (HBk6.out.turn t5 (fun q hq e => by have := hq.2; omega))
            have b5 := t5.below (B := w1.heap.size) (fun q hq => by omega) (Nat.le_refl _)
            have HI7 := Aside0.mk (HI.out.turn b5)
            clear t5 b5 HB9 HBq HT4 HBk6 HI HB0
            generalize W5.setCell ⟨w1.heap.size + 1, 0, none⟩ (.int .i64 s.f0) = W6 at HBq6 HBk7 HI7 ⊢
            have habs := HAB6.out j (Nat.le_refl _) HIN6.out
            have hkey := keyOf_mk (k : Int) (j : Int) (i64_nat (by omega)) (i64_nat (by omega))
            have hown := HBk7.out.own
            have hc5 : W6.cell? ⟨w.heap.size + 1 + 1 + 1, 1, none⟩ = some (.map (some (w.heap.size + 1 + 1))) := (blk_cell HBk7.out.hb 1).trans rfl
            have htk : tot fs k + cl fs k ≤ 1048576 := by have := HT.out; have h2 := tot_le fs (show k + 1 ≤ fs.length from hlt); simp only [tot] at h2; omega
            have hNl : N6 ≤ 1048576 := by have := HN6.out; omega
            go_wp2_with (first
              | (at_mapUpdate; refine wpList_mapUpdate_own _ rfl _ _ _ 77 rfl 90 80 keyed Tryz.underlying77 rp (w.heap.size + 1 + 1) N6 D6 rfl hown (by unfold maxLen; omega) _ _ _ rfl rfl hkey (pz ((w1.heap.size + 1 : Nat) : Int)) [] rfl ?_; intro w7 hown7 hgrow7; have HO7 := Aside0.mk hown7; have HG7 := Aside0.mk hgrow7; clear hown7 hgrow7)
              | go_in)
            go_roundw
            case rel =>
              refine ⟨j + 1, by omega, by go_num, ⟨?_⟩⟩
              have hp := HBk7.out.put HIN6.out habs HBq6.out (fun e => by have := e.2; omega) HO7.out HG7.out
              rw [HST6.out] at hp
              have t7 : Turn W6 w7 (fun q => q = w.heap.size + 1 + 1) := Turn.of_grown HG7.out (fun q e => by cases e; rfl)
              refine ⟨t7.heap HI7.out.b0 (by omega), t7.heap HI7.out.b1 (by omega), ⟨A6, c6, _, _, N6 + 1, hp, by have := HN6.out; omega, fun q hq => ?_, fun b hb hin => ?_⟩, HI7.out.below.trans (t7.below (fun q hq => by omega) HI7.out.below.size)⟩
              · rcases hq with hq | hq
                · exact HS6.out q hq.1
                · omega
              · have hin2 : InR (newF fs l k ++ [rowU l k (cl fs k) j]) k b := by
                  rw [← HST6.out] at hin
                  exact (inR_st HIN6.out.1).1 hin
                rw [has_put_other (fun e => by have := (HBk7.out.inj hin2 HIN6.out e).2; omega)]
                exact HAB6.out b (by omega) hin2
            case measure => simp [intOf]; omega
        · obtain rfl : j = cl fs k := by omega
          go_wp2_with fail
          go_roundw
          case rel =>
            refine ⟨k + 1, by omega, by go_num, ⟨?_⟩⟩
            have h1 := HI.out
            rw [rowU_full, ← newF_succ] at h1
            obtain ⟨A6, c6, D6, S6, N6, g1, g2, g3, _⟩ := h1.book
            exact ⟨h1.b0, h1.b1, ⟨A6, c6, D6, S6, N6, g1, g2, g3, fun b _ hb => absurd hb.1 (by rw [newF_len]; omega)⟩, h1.below⟩
          case measure => simp [intOf]; omega
    · obtain rfl : k = fs.length := by omega
      go_wp2_with fail
      go_ret
      obtain ⟨A6, c6, D6, S6, N6, g1, g2, g3, _⟩ := HI.out.book
      exact ⟨_, S6, rfl, ⟨_, _, _, _, g1.raise g2⟩, fun q hq => by have := g3 q hq; omega, HI.out.below⟩
end Go.Proofs.YtjeaojolhdfpeaaGreat.BookN
