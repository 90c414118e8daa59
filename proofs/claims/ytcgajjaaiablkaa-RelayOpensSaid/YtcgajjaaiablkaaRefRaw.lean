/- The reference's Reader: Raw. -/
import Derived.Test.YtcgajjaaiablkaaRefRd
namespace Go.Proofs.Ytcgajjaaiablkaa.RefRaw
open Go.RowKit Go.Proofs.YtcgajjaaiablkaaW.PrintWords Go.Proofs.YtcgajjaaiablkaaW.PrintLast Go.Proofs.YtcgajjaaiablkaaW.PrintMore
open Go.Proofs.Ytcgajjaaiablkaa.PRelaySealed Go.Proofs.Ytcgajjaaiablkaa.Reader Go.Proofs.Ytcgajjaaiablkaa.RCount Go.Proofs.Ytcgajjaaiablkaa.RRaw Go.Proofs.Ytcgajjaaiablkaa.NumRef Go.Proofs.Ytcgajjaaiablkaa.RefRd
set_option linter.unusedVariables false
set_option linter.unusedSimpArgs false
def r61_13_T : Bool × List (List Nat × List Nat) := (true, [([], []), ([], []), ([1], [1]), ([2], [2]), ([3], [3]), ([], []), ([5], [5]), ([6], [6]), ([7], [7]), ([], []), ([8, 9], [8, 9]), ([4, 10], [4, 10]), ([11], [11]), ([12], [12]), ([0, 13], [0, 13]), ([14, 14, 0, 1, 2, 3, 4, 5, 6, 7, 8, 9, 10, 11, 12, 13, 14], [0, 14])])
def r61_13_B : List Nat := [0, 0, 2, 6, 14, 0, 32, 96, 224, 0, 992, 2046, 4094, 8190, 16383, 32767]
theorem r61_13_tab : rtab .any (opsOf Try.f61 13) = r61_13_T := by kernel_rfl
theorem r61_13_bits : waitsOk r61_13_T.2 r61_13_B = true := by kernel_rfl
theorem take_next (bs : List Int) (a i : Nat) (h : a + i < bs.length) : (bs.drop a).take i ++ [rd bs ((a + i : Nat) : Int)] = (bs.drop a).take (i + 1) := by
  rw [List.take_add_one]
  rw [List.getElem?_drop, List.getElem?_eq_getElem h]
  simp only [rd, Int.toNat_natCast, List.getD_eq_getElem?_getD, List.getElem?_eq_getElem h]
  rfl
set_option maxHeartbeats 8000000 in
set_option maxRecDepth 100000 in
theorem raw_ (g : Nat) (A : Option Addr) (c : Nat) (bs : List Int) (a n : Nat) (err : Int) (w0 w0' w : World) (h : Rr w0 w0' w g A c bs a err) (ha : a ≤ bs.length) (hl : bs.length ≤ 140737488355328) :
    Calls Try.prog 61 #[.pointer (some ⟨g, 0, none⟩), .int .i64 n] w fun e w' => ∃ v, e = .returned v ∧ Rr w0 w0' w' g A c bs (rawR bs a n err).2.1 (rawR bs a n err).2.2 ∧ Kd.R (Kd.int .u8) 5 w' w.heap.size (fun k => w.heap.size ≤ k) v (rawR bs a n err).1 := by
  have H := Aside0.mk h
  obtain ⟨h0, h1, h2, f1, f2⟩ := h.look
  clear h
  unfold rawR
  by_cases he : err = 0
  · subst he
    rw [if_neg (by simp)]
    have p0 : decide ((n : Int) < 0) = false := by simp
    by_cases hn : a + n ≤ bs.length
    · rw [if_pos hn]
      have p1 : decide (IntKind.i64.wrap ((bs.length : Int) - (a : Int)) < (n : Int)) = false := by rw [IntKind.wrap_i64]; simp; omega
      go_enter Try.func61, Try.ntmps61
      go_wp2_with fail
      go_region_held3 (fun w' => w'.cell? ⟨g, 0, none⟩ = some (.slice A bs.length c) ∧ w'.cell? ⟨g, 1, none⟩ = some (.int .i64 a))
        (first | go_keep | (exact ⟨h0, h1⟩)) (fail)
      have HW := H
      replace H := Aside0.mk (H.out.drew)
      have HB0 := Aside0.mk (below_drew (Below.refl w.heap.size w))
      have HR0 := Aside0.mk (Kd.R_nil (Kd.int .u8) 5 w.drew w.heap.size (fun k => w.heap.size ≤ k))
      clear h0 h1 h2 f1 f2
      generalize w.drew = w1 at H HB0 HR0 ⊢
      go_wp2_with fail
      simp only [i64_w] at p1 ⊢
      go_loopw [5, 6] (fun v j wi => ∃ i : Nat, i ≤ n ∧ j = .int .i64 i ∧ Aside0 (Kd.R (Kd.int .u8) 5 wi w.heap.size (fun k => w.heap.size ≤ k) v ((bs.drop a).take i)) ∧ Aside0 (Below w.heap.size w wi)) (fun _ j _ => n - (intOf j).toNat)
      case atStart => exact ⟨0, by omega, rfl, by rw [List.take_zero]; exact HR0, HB0⟩
      case round =>
      clear H HR0 HB0
      obtain ⟨i, hi, rfl, HR, HB⟩ := hrel
      have H := Aside0.mk (HW.out.next HB.out)
      by_cases hlt : i < n
      · have r0 : ((i : Int) < (n : Int)) = True := by simp; omega
        obtain ⟨p, hp⟩ : ∃ p, a + i = p := ⟨_, rfl⟩
        have hpl : p < bs.length := by omega
        have H2 := Aside0.mk H.out.drew
        have HR2 := Aside0.mk (Kd.R_drew HR.out)
        have HB2 := Aside0.mk (below_drew HB.out)
        obtain ⟨ad, rfl, hx0⟩ := Kd.at_int H.out.row (p : Int) (by omega) (by omega)
        rw [Int.toNat_natCast] at hx0
        have HX0 := Aside0.mk hx0
        clear hx0
        have hsum : IntKind.i64.wrap ((a : Int) + (i : Int)) = (p : Int) := by rw [IntKind.wrap_i64]; omega
        have q1 : (0 : Int) ≤ (p : Int) := by omega
        have q2 : ((p : Nat) : Int) < (bs.length : Int) := by omega
        have hnext : (bs.drop a).take i ++ [rd bs (p : Int)] = (bs.drop a).take (i + 1) := by rw [← hp]; exact take_next bs a i (by omega)
        have HN := Aside0.mk hnext
        have hg := H.out.look
        clear hp hnext
        go_wp2_with fail
        refine start_ (n := 16) (S := fun w' => w'.cell? ⟨g, 0, none⟩ = some (.slice (some ad) bs.length c) ∧ w'.cell? ⟨g, 1, none⟩ = some (.int .i64 a) ∧ w'.cell? (ad.add p) = some (.int .u8 (rd bs (p : Int)))) (ds := []) #[false, false, false, false, false, false, false, false, false, false, false, false, false, false, false, false] (by kernel_rfl) rfl rfl ⟨hg.1, hg.2.1, pw_cell_below H.out.below HX0.out⟩ (fun hHeld => ?_)
        refine with_tabW r61_13_tab r61_13_bits (fun HT_ HW_ => ?_)
        generalize World.drew wr = W2 at H2 HR2 HB2 hHeld ⊢
        refine pure_ (i := 0) (N := some 37) (v := ?_) (a' := ?_) #[true, false, false, false, false, false, false, false, false, false, false, false, false, false, false, false] rfl rfl (any_of HT_.out (by kernel_rfl)) (fun _ _ _ h => h) (Or.inl ⟨by rfl, ?_⟩) ?_ ?_
        rotate_left
        · intro w'
          go_simp
          with_reducible rfl
        rotate_left
        · simp only [Act.put, List.setIfInBounds_toArray, List.set_cons_zero, List.set_cons_succ, i64_w, i32_w]
          rfl
        refine pure_ (i := 1) (N := some 38) (v := ?_) (a' := ?_) #[true, true, false, false, false, false, false, false, false, false, false, false, false, false, false, false] rfl rfl (any_of HT_.out (by kernel_rfl)) (fun _ _ _ h => h) (Or.inl ⟨by rfl, ?_⟩) ?_ ?_
        rotate_left
        · intro w'
          go_simp
          with_reducible rfl
        rotate_left
        · simp only [Act.put, List.setIfInBounds_toArray, List.set_cons_zero, List.set_cons_succ, i64_w, i32_w]
          rfl
        refine pure_ (i := 2) (N := some 39) (v := ?_) (a' := ?_) #[true, true, true, false, false, false, false, false, false, false, false, false, false, false, false, false] rfl rfl (any_of HT_.out (by kernel_rfl)) (fun _ _ _ h => h) (Or.inl ⟨by rfl, ?_⟩) ?_ ?_
        rotate_left
        · intro w'
          go_simp
          with_reducible rfl
        rotate_left
        · simp only [Act.put, List.setIfInBounds_toArray, List.set_cons_zero, List.set_cons_succ, i64_w, i32_w]
          rfl
        refine pure_ (i := 3) (N := some 40) (v := ?_) (a' := ?_) #[true, true, true, true, false, false, false, false, false, false, false, false, false, false, false, false] rfl rfl (any_of HT_.out (by kernel_rfl)) (fun _ _ _ h => h) (Or.inl ⟨by rfl, ?_⟩) ?_ ?_
        rotate_left
        · intro w'
          go_simp
          with_reducible rfl
        rotate_left
        · simp only [Act.put, List.setIfInBounds_toArray, List.set_cons_zero, List.set_cons_succ, i64_w, i32_w]
          rfl
        refine take_ (i := 4) (N := some 41) (v := ?_) (a' := ?_) #[true, true, true, true, true, false, false, false, false, false, false, false, false, false, false, false] rfl rfl (take_ofW HT_.out HW_.out (by kernel_rfl)) (fun _ _ _ h => h) (Or.inl ⟨by rfl, ?_⟩) hHeld ?_ ?_
        rotate_left
        · rintro w' ⟨s0, s1, s2⟩
          go_simp
          with_reducible rfl
        rotate_left
        · simp only [Act.put, List.setIfInBounds_toArray, List.set_cons_zero, List.set_cons_succ, i64_w, i32_w]
          rfl
        refine pure_ (i := 5) (N := some 42) (v := ?_) (a' := ?_) #[true, true, true, true, true, true, false, false, false, false, false, false, false, false, false, false] rfl rfl (any_of HT_.out (by kernel_rfl)) (fun _ _ _ h => h) (Or.inl ⟨by rfl, ?_⟩) ?_ ?_
        rotate_left
        · intro w'
          go_simp
          with_reducible rfl
        rotate_left
        · simp only [Act.put, List.setIfInBounds_toArray, List.set_cons_zero, List.set_cons_succ, i64_w, i32_w]
          rfl
        refine pure_ (i := 6) (N := some 43) (v := ?_) (a' := ?_) #[true, true, true, true, true, true, true, false, false, false, false, false, false, false, false, false] rfl rfl (any_of HT_.out (by kernel_rfl)) (fun _ _ _ h => h) (Or.inl ⟨by rfl, ?_⟩) ?_ ?_
        rotate_left
        · intro w'
          go_simp
          with_reducible rfl
        rotate_left
        · simp only [Act.put, List.setIfInBounds_toArray, List.set_cons_zero, List.set_cons_succ, i64_w, i32_w]
          rfl
        refine pure_ (i := 7) (N := some 44) (v := ?_) (a' := ?_) #[true, true, true, true, true, true, true, true, false, false, false, false, false, false, false, false] rfl rfl (any_of HT_.out (by kernel_rfl)) (fun _ _ _ h => h) (Or.inl ⟨by rfl, ?_⟩) ?_ ?_
        rotate_left
        · intro w'
          go_simp
          with_reducible rfl
        rotate_left
        · simp only [Act.put, List.setIfInBounds_toArray, List.set_cons_zero, List.set_cons_succ, i64_w, i32_w]
          rfl
        refine take_ (i := 8) (N := some 45) (v := ?_) (a' := ?_) #[true, true, true, true, true, true, true, true, true, false, false, false, false, false, false, false] rfl rfl (take_ofW HT_.out HW_.out (by kernel_rfl)) (fun _ _ _ h => h) (Or.inl ⟨by rfl, ?_⟩) hHeld ?_ ?_
        rotate_left
        · rintro w' ⟨s0, s1, s2⟩
          go_simp
          with_reducible rfl
        rotate_left
        · simp only [Act.put, List.setIfInBounds_toArray, List.set_cons_zero, List.set_cons_succ, i64_w, i32_w]
          rfl
        refine pure_ (i := 9) (N := some 46) (v := ?_) (a' := ?_) #[true, true, true, true, true, true, true, true, true, true, false, false, false, false, false, false] rfl rfl (any_of HT_.out (by kernel_rfl)) (fun _ _ _ h => h) (Or.inl ⟨by rfl, ?_⟩) ?_ ?_
        rotate_left
        · intro w'
          go_simp
          with_reducible rfl
        rotate_left
        · simp only [Act.put, List.setIfInBounds_toArray, List.set_cons_zero, List.set_cons_succ, i64_w, i32_w]
          rfl
        refine take_ (i := 10) (N := some 47) (v := ?_) (a' := ?_) #[true, true, true, true, true, true, true, true, true, true, true, false, false, false, false, false] rfl rfl (take_ofW HT_.out HW_.out (by kernel_rfl)) (fun _ _ _ h => h) (Or.inl ⟨by rfl, ?_⟩) hHeld ?_ ?_
        rotate_left
        · rintro w' _; go_simp; with_reducible rfl
        rotate_left
        · simp only [Act.put, List.setIfInBounds_toArray, List.set_cons_zero, List.set_cons_succ, i64_w, i32_w]
          rfl
        refine pure_ (i := 11) (N := some 48) (v := ?_) (a' := ?_) #[true, true, true, true, true, true, true, true, true, true, true, true, false, false, false, false] rfl rfl (any_of HT_.out (by kernel_rfl)) (fun _ _ _ h => h) (Or.inl ⟨by rfl, ?_⟩) ?_ ?_
        rotate_left
        · intro w'
          go_simp
          with_reducible rfl
        rotate_left
        · simp only [Act.put, List.setIfInBounds_toArray, List.set_cons_zero, List.set_cons_succ, i64_w, i32_w]
          rfl
        refine take_ (i := 12) (N := some 49) (v := ?_) (a' := ?_) #[true, true, true, true, true, true, true, true, true, true, true, true, true, false, false, false] rfl rfl (take_ofW HT_.out HW_.out (by kernel_rfl)) (fun _ _ _ h => h) (Or.inl ⟨by rfl, ?_⟩) hHeld ?_ ?_
        rotate_left
        · rintro w' ⟨s0, s1, s2⟩
          go_simp
          with_reducible rfl
        rotate_left
        · simp only [Act.put, List.setIfInBounds_toArray, List.set_cons_zero, List.set_cons_succ, i64_w, i32_w]
          rfl
        refine one_ (i := 13) (N := some 50) #[true, true, true, true, true, true, true, true, true, true, true, true, true, true, false, false] rfl rfl (one_of HT_.out (by kernel_rfl)) (by decide) (fun K hK => ?_)
        refine value_ (w1 := ?_) (v := ?_) (by rfl) rfl ?_ ?_
        rotate_left 2
        · go_simp
          constructor
          · rfl
          · rfl
        refine hK.out _ _ ⟨(blk_cell (blk_alloc H2.out.blk _) 0).trans rfl, (blk_cell (blk_alloc H2.out.blk _) 1).trans rfl, pw_cell_below (below_alloc H2.out.below _) HX0.out⟩ (fun hHeld => ?_)
        clear hK K
        refine norm_ (a' := ?_) ?_ ?_
        rotate_left
        · show Act.put _ (some 50) _ = _
          simp only [Act.put, List.setIfInBounds_toArray, List.set_cons_zero, List.set_cons_succ, i64_w, i32_w]
          rfl
        refine one_ (i := 14) (N := some 51) #[true, true, true, true, true, true, true, true, true, true, true, true, true, true, true, false] rfl rfl (one_of HT_.out (by kernel_rfl)) (by decide) (fun K hK => ?_)
        refine Kd.R_append_step (Kd.int .u8) (w0 := w) w.heap.size (by rfl) (.tmp 37) (.tmp 50) 33 5 (.int .u8 0) 1 rfl Try.underlying33 info5_ rfl (by decide) (by omega) u5 ((bs.drop a).take i) (rd bs (p : Int)) [.int .u8 (rd bs (p : Int))] (fun k => w.heap.size ≤ k) (fun _ => False) rfl rfl rfl (fun _ hk => hk.elim) (fun _ hk => Nat.le_trans HB2.out.size hk) HR2.out HB2.out HB2.out.size (by rw [List.length_take]; omega) ?_
        intro v3 w3 ho hb hgr hat
        rw [HN.out] at ho
        have HR3 := Aside0.mk ho
        have HB3 := Aside0.mk hb
        have H3 := Aside0.mk (HW.out.next HB3.out)
        clear ho hb hgr hat
        refine hK.out _ _ ⟨(blk_cell H3.out.blk 0).trans rfl, (blk_cell H3.out.blk 1).trans rfl, pw_cell_below H3.out.below HX0.out⟩ (fun hHeld => ?_)
        clear hK K
        refine norm_ (a' := ?_) ?_ ?_
        rotate_left
        · show Act.put _ (some 51) _ = _
          simp only [Act.put, List.setIfInBounds_toArray, List.set_cons_zero, List.set_cons_succ, i64_w, i32_w]
          rfl
        refine pure_ (i := 15) (N := some 5) (v := ?_) (a' := ?_) #[true, true, true, true, true, true, true, true, true, true, true, true, true, true, true, true] rfl rfl (any_of HT_.out (by kernel_rfl)) (fun _ _ _ h => h) (Or.inl ⟨by rfl, ?_⟩) ?_ ?_
        rotate_left
        · intro w'
          go_simp
          with_reducible rfl
        rotate_left
        · simp only [Act.put, List.setIfInBounds_toArray, List.set_cons_zero, List.set_cons_succ, i64_w, i32_w]
          rfl
        refine done_ (done_of HT_.out (by kernel_rfl)) ?_
        go_wp2
        go_roundw
        case measure => simp [intOf]; omega
        case rel => exact ⟨i + 1, by omega, by simp, HR3, HB3⟩
      · have hin : i = n := by omega
        subst hin
        have r0 : ((i : Int) < (i : Int)) = False := by simp
        obtain ⟨h0, h1, h2, f1, f2⟩ := H.out.look
        have hsum : IntKind.i64.wrap ((a : Int) + (i : Int)) = ((a + i : Nat) : Int) := by rw [IntKind.wrap_i64]; omega
        go_wp2_with fail
        go_ret
        exact ⟨_, rfl, H.out.set1 _, Kd.R_set HR.out H.out.blk (by decide) 1 _⟩
    · rw [if_neg hn]
      have p1 : decide (IntKind.i64.wrap ((bs.length : Int) - (a : Int)) < (n : Int)) = true := by rw [IntKind.wrap_i64]; simp; omega
      go_enter Try.func61, Try.ntmps61
      go_wp2_with fail
      go_region_held3 (fun w' => w'.cell? ⟨g, 0, none⟩ = some (.slice A bs.length c) ∧ w'.cell? ⟨g, 1, none⟩ = some (.int .i64 a))
        (first | go_keep | (exact ⟨h0, h1⟩)) (fail)
      replace H := Aside0.mk (H.out.drew)
      clear h0 h1 h2 f1 f2
      have HR0 := Aside0.mk (Kd.R_nil (Kd.int .u8) 5 w.drew w.heap.size (fun k => w.heap.size ≤ k))
      generalize w.drew = w1 at H HR0 ⊢
      obtain ⟨h0, h1, h2, f1, f2⟩ := H.out.look
      go_wp2
      go_ret
      exact ⟨_, rfl, H.out.set2 _, Kd.R_nil _ _ _ _ _⟩
  · rw [if_pos he]
    have b1 : (err != 0) = true := by simpa using he
    go_enter Try.func61, Try.ntmps61
    go_wp2
    go_ret
    exact ⟨_, rfl, H.out, Kd.R_nil _ _ _ _ _⟩
end Go.Proofs.Ytcgajjaaiablkaa.RefRaw
