/- digest: the words behind one more block. -/
import Derived.Test.YtcgajjaaiablkaaShaRound
namespace Go.Proofs.Ytcgajjaaiablkaa.ShaBehind
open Go.RowKit Go.Proofs.YtcgajjaaiablkaaW.PrintWords Go.Proofs.YtcgajjaaiablkaaW.PrintLast Go.Proofs.YtcgajjaaiablkaaW.PrintMore
open Go.Proofs.Ytcgajjaaiablkaa.PRelaySealed Go.Proofs.Ytcgajjaaiablkaa.ShaP Go.Proofs.Ytcgajjaaiablkaa.ShaRound
set_option linter.unusedVariables false
set_option linter.unusedSimpArgs false

/-- Where behind stands: the words that came in, the block, the place of the answer, the row of 64. -/
structure BH (w0 W : World) (g2 g3 g4 g5 : Nat) (s b ws : List Int) : Prop where
  below : Below w0.heap.size w0 W
  b2 : W.heap[g2]? = some (.cells (u32s s) 110 (0, 0))
  b3 : W.heap[g3]? = some (.cells (u8s b) 112 (0, 0))
  b4 : W.heap[g4]? = some (.cells (u32s (List.replicate 8 0)) 110 (0, 0))
  b5 : W.heap[g5]? = some (.cells (u32s ws) 124 (0, 0))
  l4 : w0.heap.size ≤ g4
  l5 : w0.heap.size ≤ g5
  n25 : g2 ≠ g5
  n35 : g3 ≠ g5
  n45 : g4 ≠ g5
theorem BH.next {w0 W W1 : World} {g2 g3 g4 g5 : Nat} {s b ws : List Int} (h : BH w0 W g2 g3 g4 g5 s b ws) (hb : Below W.heap.size W W1) : BH w0 W1 g2 g3 g4 g5 s b ws :=
  ⟨below_step h.below hb, (hb.block g2 (blk_lt h.b2)).trans h.b2, (hb.block g3 (blk_lt h.b3)).trans h.b3, (hb.block g4 (blk_lt h.b4)).trans h.b4, (hb.block g5 (blk_lt h.b5)).trans h.b5, h.l4, h.l5, h.n25, h.n35, h.n45⟩
theorem BH.drew {w0 W : World} {g2 g3 g4 g5 : Nat} {s b ws : List Int} (h : BH w0 W g2 g3 g4 g5 s b ws) : BH w0 W.drew g2 g3 g4 g5 s b ws := h.next (below_drew1 (Below.refl _ W))
theorem BH.put {w0 W : World} {g2 g3 g4 g5 : Nat} {s b ws : List Int} (h : BH w0 W g2 g3 g4 g5 s b ws) (j : Nat) (x : Int) : BH w0 (W.setCell ⟨g5, j, none⟩ (.int .u32 x)) g2 g3 g4 g5 s b (ws.set j x) :=
  ⟨below_set h.below h.l5, blk_far h.b2 h.n25 _, blk_far h.b3 h.n35 _, blk_far h.b4 h.n45 _, by rw [← u32s_set]; exact blk_set h.b5 j (.int .u32 x), h.l4, h.l5, h.n25, h.n35, h.n45⟩
theorem BH.at5 {w0 W : World} {g2 g3 g4 g5 : Nat} {s b ws : List Int} (h : BH w0 W g2 g3 g4 g5 s b ws) (j : Nat) (hj : j < ws.length) : W.cell? ⟨g5, j, none⟩ = some (.int .u32 (rd ws (j : Int))) := (blk_cell h.b5 j).trans (u32s_at ws j hj)
theorem BH.at3 {w0 W : World} {g2 g3 g4 g5 : Nat} {s b ws : List Int} (h : BH w0 W g2 g3 g4 g5 s b ws) (j : Nat) (hj : j < b.length) : W.cell? ⟨g3, j, none⟩ = some (.int .u8 (rd b (j : Int))) := (blk_cell h.b3 j).trans (u8s_at b j hj)

/-- Where behind stands once the 64 words are laid. -/
structure CH (w0 W : World) (g2 g4 g5 g10 g11 : Nat) (s ws x : List Int) : Prop where
  below : Below w0.heap.size w0 W
  b2 : W.heap[g2]? = some (.cells (u32s s) 110 (0, 0))
  b4 : W.heap[g4]? = some (.cells (u32s (List.replicate 8 0)) 110 (0, 0))
  b5 : W.heap[g5]? = some (.cells (u32s ws) 124 (0, 0))
  b10 : W.heap[g10]? = some (.cells (u32s x) 110 (0, 0))
  b11 : W.heap[g11]? = some (.cells (u32s kT) 124 (0, 0))
  l4 : w0.heap.size ≤ g4
  l10 : w0.heap.size ≤ g10
  n2 : g2 ≠ g10
  n4 : g4 ≠ g10
  n5 : g5 ≠ g10
  n11 : g11 ≠ g10
section
variable {w0 W W1 : World} {g2 g4 g5 g10 g11 : Nat} {s ws x : List Int}
theorem CH.next (h : CH w0 W g2 g4 g5 g10 g11 s ws x) (hb : Below W.heap.size W W1) : CH w0 W1 g2 g4 g5 g10 g11 s ws x :=
  ⟨below_step h.below hb, (hb.block g2 (blk_lt h.b2)).trans h.b2, (hb.block g4 (blk_lt h.b4)).trans h.b4, (hb.block g5 (blk_lt h.b5)).trans h.b5, (hb.block g10 (blk_lt h.b10)).trans h.b10, (hb.block g11 (blk_lt h.b11)).trans h.b11, h.l4, h.l10, h.n2, h.n4, h.n5, h.n11⟩
theorem CH.drew (h : CH w0 W g2 g4 g5 g10 g11 s ws x) : CH w0 W.drew g2 g4 g5 g10 g11 s ws x := h.next (below_drew1 (Below.refl _ W))
theorem CH.wrote (h : CH w0 W g2 g4 g5 g10 g11 s ws x) {y : List Int} (hr : W1.heap[g10]? = some (.cells (u32s y) 110 (0, 0))) (hw : Wrote W W1 g10) : CH w0 W1 g2 g4 g5 g10 g11 s ws y :=
  ⟨hw.below h.below h.l10, hw.other h.b2 h.n2, hw.other h.b4 h.n4, hw.other h.b5 h.n5, hr, hw.other h.b11 h.n11, h.l4, h.l10, h.n2, h.n4, h.n5, h.n11⟩
theorem CH.put (h : CH w0 W g2 g4 g5 g10 g11 s ws x) (j : Nat) (y : Int) : CH w0 (W.setCell ⟨g10, j, none⟩ (.int .u32 y)) g2 g4 g5 g10 g11 s ws (x.set j y) :=
  ⟨below_set h.below h.l10, blk_far h.b2 h.n2 _, blk_far h.b4 h.n4 _, blk_far h.b5 h.n5 _, by rw [← u32s_set]; exact blk_set h.b10 j (.int .u32 y), blk_far h.b11 h.n11 _, h.l4, h.l10, h.n2, h.n4, h.n5, h.n11⟩
end
def r99_5_T : Bool × List (List Nat × List Nat) := (true, [([], []), ([], []), ([1], [1]), ([2], [2]), ([3], [3]), ([4], [4]), ([5], [5]), ([], []), ([7], [7]), ([8], [8]), ([9], [9]), ([10], [10]), ([11], [11]), ([12], [12]), ([6, 13], [6, 13]), ([], []), ([15], [15]), ([16], [16]), ([17], [17]), ([18], [18]), ([19], [19]), ([20], [20]), ([14, 21], [14, 21]), ([], []), ([23], [23]), ([24], [24]), ([25], [25]), ([26], [26]), ([27], [27]), ([22, 28], [22, 28]), ([0, 0, 1, 2, 3, 4, 5, 6, 7, 8, 9, 10, 11, 12, 13, 14, 15, 16, 17, 18, 19, 20, 21, 22, 23, 24, 25, 26, 27, 28, 29], [0]), ([30, 29, 0, 1, 2, 3, 4, 5, 6, 7, 8, 9, 10, 11, 12, 13, 14, 15, 16, 17, 18, 19, 20, 21, 22, 23, 24, 25, 26, 27, 28, 29], [29, 30])])
def r99_5_B : List Nat := [0, 0, 2, 6, 14, 30, 62, 0, 128, 384, 896, 1920, 3968, 8064, 16382, 0, 32768, 98304, 229376, 491520, 1015808, 2064384, 4194302, 0, 8388608, 25165824, 58720256, 125829120, 260046848, 536870910, 1073741823, 2147483647]
theorem r99_5_tab : rtab .any (opsOf Try.f99 5) = r99_5_T := by kernel_rfl
theorem r99_5_bits : waitsOk r99_5_T.2 r99_5_B = true := by kernel_rfl
def r99_10_T : Bool × List (List Nat × List Nat) := (true, [([], []), ([0], [0]), ([1], [1]), ([2], [2]), ([3], [3]), ([], []), ([5], [5]), ([6], [6]), ([7], [7]), ([8, 4], [8]), ([4, 9], [4, 9]), ([], []), ([11], [11]), ([12], [12]), ([13], [13]), ([14], [14]), ([10, 15], [10, 15]), ([16, 9, 0, 1, 2, 3, 4, 5, 6, 7, 8, 9, 10, 11, 12, 13, 14, 15, 16], [16])])
def r99_10_B : List Nat := [0, 1, 3, 7, 15, 0, 32, 96, 224, 511, 1023, 0, 2048, 6144, 14336, 30720, 65535, 131071]
theorem r99_10_tab : rtab .any (opsOf Try.f99 10) = r99_10_T := by kernel_rfl
theorem r99_10_bits : waitsOk r99_10_T.2 r99_10_B = true := by kernel_rfl
def r99_11_T : Bool × List (List Nat × List Nat) := (true, [([], []), ([0], [0]), ([1], [1]), ([2], [2]), ([3], [3]), ([], []), ([5], [5]), ([6], [6]), ([7], [7]), ([8, 4], [8]), ([4, 9], [4, 9]), ([], []), ([11], [11]), ([12], [12]), ([13], [13]), ([14], [14]), ([10, 15], [10, 15]), ([16, 9, 0, 1, 2, 3, 4, 5, 6, 7, 8, 9, 10, 11, 12, 13, 14, 15, 16], [16])])
def r99_11_B : List Nat := [0, 1, 3, 7, 15, 0, 32, 96, 224, 511, 1023, 0, 2048, 6144, 14336, 30720, 65535, 131071]
theorem r99_11_tab : rtab .any (opsOf Try.f99 11) = r99_11_T := by kernel_rfl
theorem r99_11_bits : waitsOk r99_11_T.2 r99_11_B = true := by kernel_rfl
def r99_12_T : Bool × List (List Nat × List Nat) := (true, [([], []), ([], []), ([], []), ([2], [2]), ([3], [3]), ([4], [4]), ([1, 5], [1, 5]), ([], []), ([6, 7], [6, 7]), ([], []), ([9], [9]), ([10], [10]), ([11], [11]), ([8, 12], [8, 12]), ([0, 0, 1, 2, 3, 4, 5, 6, 7, 8, 9, 10, 11, 12, 13], [0]), ([14, 13, 0, 1, 2, 3, 4, 5, 6, 7, 8, 9, 10, 11, 12, 13], [13, 14])])
def r99_12_B : List Nat := [0, 0, 0, 4, 12, 28, 62, 0, 254, 0, 512, 1536, 3584, 8190, 16383, 32767]
theorem r99_12_tab : rtab .any (opsOf Try.f99 12) = r99_12_T := by kernel_rfl
theorem r99_12_bits : waitsOk r99_12_T.2 r99_12_B = true := by kernel_rfl
def r99_18_T : Bool × List (List Nat × List Nat) := (true, [([], []), ([], []), ([1], [1]), ([2], [2]), ([], []), ([4], [4]), ([5], [5]), ([3, 6], [3, 6]), ([0, 7], [0, 7]), ([8, 8, 0, 1, 2, 3, 4, 5, 6, 7, 8], [8])])
def r99_18_B : List Nat := [0, 0, 2, 6, 0, 16, 48, 126, 255, 511]
theorem r99_18_tab : rtab .any (opsOf Try.f99 18) = r99_18_T := by kernel_rfl
theorem r99_18_bits : waitsOk r99_18_T.2 r99_18_B = true := by kernel_rfl
def r99_23_T : Bool × List (List Nat × List Nat) := (true, [([], []), ([0], [0]), ([1], [1]), ([], []), ([3], [3]), ([4], [4]), ([2, 5], [2, 5]), ([0, 0, 1, 2, 3, 4, 5, 6], [0]), ([7, 6, 0, 1, 2, 3, 4, 5, 6], [6, 7])])
def r99_23_B : List Nat := [0, 1, 3, 0, 8, 24, 63, 127, 255]
theorem r99_23_tab : rtab .any (opsOf Try.f99 23) = r99_23_T := by kernel_rfl
theorem r99_23_bits : waitsOk r99_23_T.2 r99_23_B = true := by kernel_rfl
set_option maxHeartbeats 8000000 in
set_option maxRecDepth 100000 in
theorem behind_calls (s b : List Int) (hs : s.length = 8) (hb : b.length = 64) (w : World) :
    Calls Try.prog 99 #[.agg (u32s s), .agg (u8s b)] w fun e w' => e = .returned (.agg (u32s (comp s b))) ∧ Below w.heap.size w w' := by
  have HS := Aside0.mk hs
  have HBL := Aside0.mk hb
  clear hs hb
  go_enter Try.func99, Try.ntmps99
  go_wp2_with (first
    | ((with_reducible refine gate_dst (N := 2) rfl ?_); refine box_event_ 110 (u32s s) rfl rfl (by first | (go_simp; done) | (go_simp; rfl)) ?_; intro g2 w2 hg2 hA2 hb2; have HA2 := Aside0.mk hA2; have HB2 := Aside0.mk hb2; clear hg2 hA2 hb2)
    | ((with_reducible refine gate_dst (N := 3) rfl ?_); refine box_event_ 112 (u8s b) rfl rfl (by first | (go_simp; done) | (go_simp; rfl)) ?_; intro g3 w3 hg3 hA3 hb3; have HA3 := Aside0.mk hA3; have HB3 := Aside0.mk hb3; clear hg3 hA3 hb3)
    | ((with_reducible refine gate_dst (N := 4) rfl ?_); refine box_event_ 110 (u32s (List.replicate 8 0)) rfl rfl (by first | (go_simp; done) | (go_simp; rfl)) ?_; intro g4 w4 hg4 hA4 hb4; have HA4 := Aside0.mk hA4; have HB4 := Aside0.mk hb4; have HG4 := Aside0.mk hg4; clear hg4 hA4 hb4)
    | ((with_reducible refine gate_dst (N := 5) rfl ?_); refine box_event_ 124 (u32s (List.replicate 64 0)) rfl rfl (by first | (go_simp; done) | (go_simp; rfl)) ?_; intro g5 w5 hg5 hA5 hb5; have HA5 := Aside0.mk hA5; have HB5 := Aside0.mk hb5; have HG5 := Aside0.mk hg5; clear hg5 hA5 hb5))
  have H0 : Aside0 (BH w w5 g2 g3 g4 g5 s b (w16 b 0)) := ⟨by
    have l2 := blk_lt HA2.out
    have l3 := blk_lt HA3.out
    have l4 := blk_lt HA4.out
    have e2 := HB2.out.size
    have e3 := HB3.out.size
    have e4 := HB4.out.size
    have h4 := HG4.out
    have h5 := HG5.out
    exact ⟨below_step (below_step (below_step HB2.out HB3.out) HB4.out) HB5.out, (HB5.out.block g2 (by omega)).trans ((HB4.out.block g2 (by omega)).trans ((HB3.out.block g2 l2).trans HA2.out)), (HB5.out.block g3 (by omega)).trans ((HB4.out.block g3 l3).trans HA3.out), (HB5.out.block g4 l4).trans HA4.out, HA5.out, by omega, by omega, by omega, by omega, by omega⟩⟩
  clear HA2 HA3 HA4 HA5 HB2 HB3 HB4 HB5 HG4 HG5
  go_loopw [14] (fun v14 wi => ∃ (t : Nat), t ≤ 16 ∧ v14 = .int .i64 t ∧ Aside0 (BH w wi g2 g3 g4 g5 s b (w16 b t))) (fun v14 _ => 16 - (intOf v14).toNat)
  case atStart => exact ⟨0, by omega, rfl, H0⟩
  case round =>
  clear H0
  obtain ⟨t, ht, rfl, HX⟩ := hrel
  by_cases hlt : t < 16
  · go_wp2_with fail
    have q0 : wrap64 (4 * (t : Int)) = 4 * (t : Int) := by unfold wrap64; omega
    have q1 : wrap64 (4 * (t : Int) + 1) = 4 * (t : Int) + 1 := by unfold wrap64; omega
    have q2 : wrap64 (4 * (t : Int) + 2) = 4 * (t : Int) + 2 := by unfold wrap64; omega
    have q3 : wrap64 (4 * (t : Int) + 3) = 4 * (t : Int) + 3 := by unfold wrap64; omega
    have p0 : (0 ≤ 4 * (t : Int)) = True := by simp; omega
    have p1 : (0 ≤ 4 * (t : Int) + 1) = True := by simp; omega
    have p2 : (0 ≤ 4 * (t : Int) + 2) = True := by simp; omega
    have p3 : (0 ≤ 4 * (t : Int) + 3) = True := by simp; omega
    have r0 : (4 * (t : Int) < 64) = True := by simp; omega
    have r1 : (4 * (t : Int) + 1 < 64) = True := by simp; omega
    have r2 : (4 * (t : Int) + 2 < 64) = True := by simp; omega
    have r3 : (4 * (t : Int) + 3 < 64) = True := by simp; omega
    have r4 : ((t : Int) < 64) = True := by simp; omega
    have HD := Aside0.mk HX.out.drew
    have hbl := HBL.out
    have c0 := Aside0.mk (HX.out.at3 (4 * (t : Int)).toNat (by omega))
    have c1 := Aside0.mk (HX.out.at3 (4 * (t : Int) + 1).toNat (by omega))
    have c2 := Aside0.mk (HX.out.at3 (4 * (t : Int) + 2).toNat (by omega))
    have c3 := Aside0.mk (HX.out.at3 (4 * (t : Int) + 3).toNat (by omega))
    rw [show (((4 * (t : Int)).toNat : Nat) : Int) = 4 * (t : Int) by omega] at c0
    rw [show (((4 * (t : Int) + 1).toNat : Nat) : Int) = 4 * (t : Int) + 1 by omega] at c1
    rw [show (((4 * (t : Int) + 2).toNat : Nat) : Int) = 4 * (t : Int) + 2 by omega] at c2
    rw [show (((4 * (t : Int) + 3).toNat : Nat) : Int) = 4 * (t : Int) + 3 by omega] at c3
    clear hbl
    refine start_ (n := 32) (S := fun w' => w'.cell? ⟨g3, (4 * (t : Int)).toNat, none⟩ = some (.int .u8 (rd b (4 * (t : Int)))) ∧ w'.cell? ⟨g3, (4 * (t : Int) + 1).toNat, none⟩ = some (.int .u8 (rd b (4 * (t : Int) + 1))) ∧ w'.cell? ⟨g3, (4 * (t : Int) + 2).toNat, none⟩ = some (.int .u8 (rd b (4 * (t : Int) + 2))) ∧ w'.cell? ⟨g3, (4 * (t : Int) + 3).toNat, none⟩ = some (.int .u8 (rd b (4 * (t : Int) + 3)))) (ds := [31]) #[false, false, false, false, false, false, false, false, false, false, false, false, false, false, false, false, false, false, false, false, false, false, false, false, false, false, false, false, false, false, false, false] (by kernel_rfl) rfl rfl ⟨c0.out, c1.out, c2.out, c3.out⟩ (fun hHeld => ?_)
    refine with_tabW r99_5_tab r99_5_bits (fun HT_ HW_ => ?_)
    generalize World.drew wr = W1 at HD hHeld ⊢
    refine pure_ (i := 0) (N := some 17) (v := ?_) (a' := ?_) #[true, false, false, false, false, false, false, false, false, false, false, false, false, false, false, false, false, false, false, false, false, false, false, false, false, false, false, false, false, false, false, false] rfl rfl (any_of HT_.out (by kernel_rfl)) (fun _ _ _ h => h) (Or.inl ⟨by rfl, ?_⟩) ?_ ?_
    rotate_left
    · intro w'
      go_simp
      with_reducible rfl
    rotate_left
    · simp only [Act.put, List.setIfInBounds_toArray, List.set_cons_zero, List.set_cons_succ, i64_w, i32_w]
      rfl
    refine pure_ (i := 1) (N := some 18) (v := ?_) (a' := ?_) #[true, true, false, false, false, false, false, false, false, false, false, false, false, false, false, false, false, false, false, false, false, false, false, false, false, false, false, false, false, false, false, false] rfl rfl (any_of HT_.out (by kernel_rfl)) (fun _ _ _ h => h) (Or.inl ⟨by rfl, ?_⟩) ?_ ?_
    rotate_left
    · intro w'
      go_simp
      with_reducible rfl
    rotate_left
    · simp only [Act.put, List.setIfInBounds_toArray, List.set_cons_zero, List.set_cons_succ, i64_w, i32_w]
      rfl
    refine pure_ (i := 2) (N := some 19) (v := ?_) (a' := ?_) #[true, true, true, false, false, false, false, false, false, false, false, false, false, false, false, false, false, false, false, false, false, false, false, false, false, false, false, false, false, false, false, false] rfl rfl (any_of HT_.out (by kernel_rfl)) (fun _ _ _ h => h) (Or.inl ⟨by rfl, ?_⟩) ?_ ?_
    rotate_left
    · intro w'
      go_simp
      with_reducible rfl
    rotate_left
    · simp only [Act.put, List.setIfInBounds_toArray, List.set_cons_zero, List.set_cons_succ, i64_w, i32_w]
      rfl
    refine pure_ (i := 3) (N := some 20) (v := ?_) (a' := ?_) #[true, true, true, true, false, false, false, false, false, false, false, false, false, false, false, false, false, false, false, false, false, false, false, false, false, false, false, false, false, false, false, false] rfl rfl (any_of HT_.out (by kernel_rfl)) (fun _ _ _ h => h) (Or.inl ⟨by rfl, ?_⟩) ?_ ?_
    rotate_left
    · intro w'
      go_simp
      with_reducible rfl
    rotate_left
    · simp only [Act.put, List.setIfInBounds_toArray, List.set_cons_zero, List.set_cons_succ, i64_w, i32_w]
      rfl
    refine take_ (i := 4) (N := some 21) (v := ?_) (a' := ?_) #[true, true, true, true, true, false, false, false, false, false, false, false, false, false, false, false, false, false, false, false, false, false, false, false, false, false, false, false, false, false, false, false] rfl rfl (take_ofW HT_.out HW_.out (by kernel_rfl)) (fun _ _ _ h => h) (Or.inl ⟨by rfl, ?_⟩) hHeld ?_ ?_
    rotate_left
    · rintro w' ⟨s0, s1, s2, s3⟩
      go_simp
      with_reducible rfl
    rotate_left
    · simp only [Act.put, List.setIfInBounds_toArray, List.set_cons_zero, List.set_cons_succ, i64_w, i32_w]
      rfl
    refine pure_ (i := 5) (N := some 22) (v := ?_) (a' := ?_) #[true, true, true, true, true, true, false, false, false, false, false, false, false, false, false, false, false, false, false, false, false, false, false, false, false, false, false, false, false, false, false, false] rfl rfl (any_of HT_.out (by kernel_rfl)) (fun _ _ _ h => h) (Or.inl ⟨by rfl, ?_⟩) ?_ ?_
    rotate_left
    · intro w'
      go_simp
      with_reducible rfl
    rotate_left
    · simp only [Act.put, List.setIfInBounds_toArray, List.set_cons_zero, List.set_cons_succ, i64_w, i32_w]
      rfl
    refine pure_ (i := 6) (N := some 23) (v := ?_) (a' := ?_) #[true, true, true, true, true, true, true, false, false, false, false, false, false, false, false, false, false, false, false, false, false, false, false, false, false, false, false, false, false, false, false, false] rfl rfl (any_of HT_.out (by kernel_rfl)) (fun _ _ _ h => h) (Or.inl ⟨by rfl, ?_⟩) ?_ ?_
    rotate_left
    · intro w'
      go_simp
      with_reducible rfl
    rotate_left
    · simp only [Act.put, List.setIfInBounds_toArray, List.set_cons_zero, List.set_cons_succ, i64_w, i32_w]
      rfl
    refine pure_ (i := 7) (N := some 24) (v := ?_) (a' := ?_) #[true, true, true, true, true, true, true, true, false, false, false, false, false, false, false, false, false, false, false, false, false, false, false, false, false, false, false, false, false, false, false, false] rfl rfl (any_of HT_.out (by kernel_rfl)) (fun _ _ _ h => h) (Or.inl ⟨by rfl, ?_⟩) ?_ ?_
    rotate_left
    · intro w'
      go_simp
      with_reducible rfl
    rotate_left
    · simp only [Act.put, List.setIfInBounds_toArray, List.set_cons_zero, List.set_cons_succ, i64_w, i32_w]
      rfl
    refine pure_ (i := 8) (N := some 25) (v := ?_) (a' := ?_) #[true, true, true, true, true, true, true, true, true, false, false, false, false, false, false, false, false, false, false, false, false, false, false, false, false, false, false, false, false, false, false, false] rfl rfl (any_of HT_.out (by kernel_rfl)) (fun _ _ _ h => h) (Or.inl ⟨by rfl, ?_⟩) ?_ ?_
    rotate_left
    · intro w'
      go_simp
      with_reducible rfl
    rotate_left
    · simp only [Act.put, List.setIfInBounds_toArray, List.set_cons_zero, List.set_cons_succ, i64_w, i32_w]
      rfl
    refine pure_ (i := 9) (N := some 26) (v := ?_) (a' := ?_) #[true, true, true, true, true, true, true, true, true, true, false, false, false, false, false, false, false, false, false, false, false, false, false, false, false, false, false, false, false, false, false, false] rfl rfl (any_of HT_.out (by kernel_rfl)) (fun _ _ _ h => h) (Or.inl ⟨by rfl, ?_⟩) ?_ ?_
    rotate_left
    · intro w'
      go_simp
      with_reducible rfl
    rotate_left
    · simp only [Act.put, List.setIfInBounds_toArray, List.set_cons_zero, List.set_cons_succ, i64_w, i32_w]
      rfl
    refine pure_ (i := 10) (N := some 27) (v := ?_) (a' := ?_) #[true, true, true, true, true, true, true, true, true, true, true, false, false, false, false, false, false, false, false, false, false, false, false, false, false, false, false, false, false, false, false, false] rfl rfl (any_of HT_.out (by kernel_rfl)) (fun _ _ _ h => h) (Or.inl ⟨by rfl, ?_⟩) ?_ ?_
    rotate_left
    · intro w'
      go_simp
      with_reducible rfl
    rotate_left
    · simp only [Act.put, List.setIfInBounds_toArray, List.set_cons_zero, List.set_cons_succ, i64_w, i32_w]
      rfl
    refine take_ (i := 11) (N := some 28) (v := ?_) (a' := ?_) #[true, true, true, true, true, true, true, true, true, true, true, true, false, false, false, false, false, false, false, false, false, false, false, false, false, false, false, false, false, false, false, false] rfl rfl (take_ofW HT_.out HW_.out (by kernel_rfl)) (fun _ _ _ h => h) (Or.inl ⟨by rfl, ?_⟩) hHeld ?_ ?_
    rotate_left
    · rintro w' ⟨s0, s1, s2, s3⟩
      go_simp
      with_reducible rfl
    rotate_left
    · simp only [Act.put, List.setIfInBounds_toArray, List.set_cons_zero, List.set_cons_succ, i64_w, i32_w]
      rfl
    refine pure_ (i := 12) (N := some 29) (v := ?_) (a' := ?_) #[true, true, true, true, true, true, true, true, true, true, true, true, true, false, false, false, false, false, false, false, false, false, false, false, false, false, false, false, false, false, false, false] rfl rfl (any_of HT_.out (by kernel_rfl)) (fun _ _ _ h => h) (Or.inl ⟨by rfl, ?_⟩) ?_ ?_
    rotate_left
    · intro w'
      go_simp
      with_reducible rfl
    rotate_left
    · simp only [Act.put, List.setIfInBounds_toArray, List.set_cons_zero, List.set_cons_succ, i64_w, i32_w]
      rfl
    refine pure_ (i := 13) (N := some 30) (v := ?_) (a' := ?_) #[true, true, true, true, true, true, true, true, true, true, true, true, true, true, false, false, false, false, false, false, false, false, false, false, false, false, false, false, false, false, false, false] rfl rfl (any_of HT_.out (by kernel_rfl)) (fun _ _ _ h => h) (Or.inl ⟨by rfl, ?_⟩) ?_ ?_
    rotate_left
    · intro w'
      go_simp
      with_reducible rfl
    rotate_left
    · simp only [Act.put, List.setIfInBounds_toArray, List.set_cons_zero, List.set_cons_succ, i64_w, i32_w]
      rfl
    refine pure_ (i := 14) (N := some 31) (v := ?_) (a' := ?_) #[true, true, true, true, true, true, true, true, true, true, true, true, true, true, true, false, false, false, false, false, false, false, false, false, false, false, false, false, false, false, false, false] rfl rfl (any_of HT_.out (by kernel_rfl)) (fun _ _ _ h => h) (Or.inl ⟨by rfl, ?_⟩) ?_ ?_
    rotate_left
    · intro w'
      go_simp
      with_reducible rfl
    rotate_left
    · simp only [Act.put, List.setIfInBounds_toArray, List.set_cons_zero, List.set_cons_succ, i64_w, i32_w]
      rfl
    refine pure_ (i := 15) (N := some 32) (v := ?_) (a' := ?_) #[true, true, true, true, true, true, true, true, true, true, true, true, true, true, true, true, false, false, false, false, false, false, false, false, false, false, false, false, false, false, false, false] rfl rfl (any_of HT_.out (by kernel_rfl)) (fun _ _ _ h => h) (Or.inl ⟨by rfl, ?_⟩) ?_ ?_
    rotate_left
    · intro w'
      go_simp
      with_reducible rfl
    rotate_left
    · simp only [Act.put, List.setIfInBounds_toArray, List.set_cons_zero, List.set_cons_succ, i64_w, i32_w]
      rfl
    refine pure_ (i := 16) (N := some 33) (v := ?_) (a' := ?_) #[true, true, true, true, true, true, true, true, true, true, true, true, true, true, true, true, true, false, false, false, false, false, false, false, false, false, false, false, false, false, false, false] rfl rfl (any_of HT_.out (by kernel_rfl)) (fun _ _ _ h => h) (Or.inl ⟨by rfl, ?_⟩) ?_ ?_
    rotate_left
    · intro w'
      go_simp
      with_reducible rfl
    rotate_left
    · simp only [Act.put, List.setIfInBounds_toArray, List.set_cons_zero, List.set_cons_succ, i64_w, i32_w]
      rfl
    refine pure_ (i := 17) (N := some 34) (v := ?_) (a' := ?_) #[true, true, true, true, true, true, true, true, true, true, true, true, true, true, true, true, true, true, false, false, false, false, false, false, false, false, false, false, false, false, false, false] rfl rfl (any_of HT_.out (by kernel_rfl)) (fun _ _ _ h => h) (Or.inl ⟨by rfl, ?_⟩) ?_ ?_
    rotate_left
    · intro w'
      go_simp
      with_reducible rfl
    rotate_left
    · simp only [Act.put, List.setIfInBounds_toArray, List.set_cons_zero, List.set_cons_succ, i64_w, i32_w]
      rfl
    refine pure_ (i := 18) (N := some 35) (v := ?_) (a' := ?_) #[true, true, true, true, true, true, true, true, true, true, true, true, true, true, true, true, true, true, true, false, false, false, false, false, false, false, false, false, false, false, false, false] rfl rfl (any_of HT_.out (by kernel_rfl)) (fun _ _ _ h => h) (Or.inl ⟨by rfl, ?_⟩) ?_ ?_
    rotate_left
    · intro w'
      go_simp
      with_reducible rfl
    rotate_left
    · simp only [Act.put, List.setIfInBounds_toArray, List.set_cons_zero, List.set_cons_succ, i64_w, i32_w]
      rfl
    refine take_ (i := 19) (N := some 36) (v := ?_) (a' := ?_) #[true, true, true, true, true, true, true, true, true, true, true, true, true, true, true, true, true, true, true, true, false, false, false, false, false, false, false, false, false, false, false, false] rfl rfl (take_ofW HT_.out HW_.out (by kernel_rfl)) (fun _ _ _ h => h) (Or.inl ⟨by rfl, ?_⟩) hHeld ?_ ?_
    rotate_left
    · rintro w' ⟨s0, s1, s2, s3⟩
      go_simp
      with_reducible rfl
    rotate_left
    · simp only [Act.put, List.setIfInBounds_toArray, List.set_cons_zero, List.set_cons_succ, i64_w, i32_w]
      rfl
    refine pure_ (i := 20) (N := some 37) (v := ?_) (a' := ?_) #[true, true, true, true, true, true, true, true, true, true, true, true, true, true, true, true, true, true, true, true, true, false, false, false, false, false, false, false, false, false, false, false] rfl rfl (any_of HT_.out (by kernel_rfl)) (fun _ _ _ h => h) (Or.inl ⟨by rfl, ?_⟩) ?_ ?_
    rotate_left
    · intro w'
      go_simp
      with_reducible rfl
    rotate_left
    · simp only [Act.put, List.setIfInBounds_toArray, List.set_cons_zero, List.set_cons_succ, i64_w, i32_w]
      rfl
    refine pure_ (i := 21) (N := some 38) (v := ?_) (a' := ?_) #[true, true, true, true, true, true, true, true, true, true, true, true, true, true, true, true, true, true, true, true, true, true, false, false, false, false, false, false, false, false, false, false] rfl rfl (any_of HT_.out (by kernel_rfl)) (fun _ _ _ h => h) (Or.inl ⟨by rfl, ?_⟩) ?_ ?_
    rotate_left
    · intro w'
      go_simp
      with_reducible rfl
    rotate_left
    · simp only [Act.put, List.setIfInBounds_toArray, List.set_cons_zero, List.set_cons_succ, i64_w, i32_w]
      rfl
    refine pure_ (i := 22) (N := some 39) (v := ?_) (a' := ?_) #[true, true, true, true, true, true, true, true, true, true, true, true, true, true, true, true, true, true, true, true, true, true, true, false, false, false, false, false, false, false, false, false] rfl rfl (any_of HT_.out (by kernel_rfl)) (fun _ _ _ h => h) (Or.inl ⟨by rfl, ?_⟩) ?_ ?_
    rotate_left
    · intro w'
      go_simp
      with_reducible rfl
    rotate_left
    · simp only [Act.put, List.setIfInBounds_toArray, List.set_cons_zero, List.set_cons_succ, i64_w, i32_w]
      rfl
    refine pure_ (i := 23) (N := some 40) (v := ?_) (a' := ?_) #[true, true, true, true, true, true, true, true, true, true, true, true, true, true, true, true, true, true, true, true, true, true, true, true, false, false, false, false, false, false, false, false] rfl rfl (any_of HT_.out (by kernel_rfl)) (fun _ _ _ h => h) (Or.inl ⟨by rfl, ?_⟩) ?_ ?_
    rotate_left
    · intro w'
      go_simp
      with_reducible rfl
    rotate_left
    · simp only [Act.put, List.setIfInBounds_toArray, List.set_cons_zero, List.set_cons_succ, i64_w, i32_w]
      rfl
    refine pure_ (i := 24) (N := some 41) (v := ?_) (a' := ?_) #[true, true, true, true, true, true, true, true, true, true, true, true, true, true, true, true, true, true, true, true, true, true, true, true, true, false, false, false, false, false, false, false] rfl rfl (any_of HT_.out (by kernel_rfl)) (fun _ _ _ h => h) (Or.inl ⟨by rfl, ?_⟩) ?_ ?_
    rotate_left
    · intro w'
      go_simp
      with_reducible rfl
    rotate_left
    · simp only [Act.put, List.setIfInBounds_toArray, List.set_cons_zero, List.set_cons_succ, i64_w, i32_w]
      rfl
    refine pure_ (i := 25) (N := some 42) (v := ?_) (a' := ?_) #[true, true, true, true, true, true, true, true, true, true, true, true, true, true, true, true, true, true, true, true, true, true, true, true, true, true, false, false, false, false, false, false] rfl rfl (any_of HT_.out (by kernel_rfl)) (fun _ _ _ h => h) (Or.inl ⟨by rfl, ?_⟩) ?_ ?_
    rotate_left
    · intro w'
      go_simp
      with_reducible rfl
    rotate_left
    · simp only [Act.put, List.setIfInBounds_toArray, List.set_cons_zero, List.set_cons_succ, i64_w, i32_w]
      rfl
    refine pure_ (i := 26) (N := some 43) (v := ?_) (a' := ?_) #[true, true, true, true, true, true, true, true, true, true, true, true, true, true, true, true, true, true, true, true, true, true, true, true, true, true, true, false, false, false, false, false] rfl rfl (any_of HT_.out (by kernel_rfl)) (fun _ _ _ h => h) (Or.inl ⟨by rfl, ?_⟩) ?_ ?_
    rotate_left
    · intro w'
      go_simp
      with_reducible rfl
    rotate_left
    · simp only [Act.put, List.setIfInBounds_toArray, List.set_cons_zero, List.set_cons_succ, i64_w, i32_w]
      rfl
    refine take_ (i := 27) (N := some 44) (v := ?_) (a' := ?_) #[true, true, true, true, true, true, true, true, true, true, true, true, true, true, true, true, true, true, true, true, true, true, true, true, true, true, true, true, false, false, false, false] rfl rfl (take_ofW HT_.out HW_.out (by kernel_rfl)) (fun _ _ _ h => h) (Or.inl ⟨by rfl, ?_⟩) hHeld ?_ ?_
    rotate_left
    · rintro w' ⟨s0, s1, s2, s3⟩
      go_simp
      with_reducible rfl
    rotate_left
    · simp only [Act.put, List.setIfInBounds_toArray, List.set_cons_zero, List.set_cons_succ, i64_w, i32_w]
      rfl
    refine pure_ (i := 28) (N := some 45) (v := ?_) (a' := ?_) #[true, true, true, true, true, true, true, true, true, true, true, true, true, true, true, true, true, true, true, true, true, true, true, true, true, true, true, true, true, false, false, false] rfl rfl (any_of HT_.out (by kernel_rfl)) (fun _ _ _ h => h) (Or.inl ⟨by rfl, ?_⟩) ?_ ?_
    rotate_left
    · intro w'
      go_simp
      with_reducible rfl
    rotate_left
    · simp only [Act.put, List.setIfInBounds_toArray, List.set_cons_zero, List.set_cons_succ, i64_w, i32_w]
      rfl
    refine pure_ (i := 29) (N := some 46) (v := ?_) (a' := ?_) #[true, true, true, true, true, true, true, true, true, true, true, true, true, true, true, true, true, true, true, true, true, true, true, true, true, true, true, true, true, true, false, false] rfl rfl (any_of HT_.out (by kernel_rfl)) (fun _ _ _ h => h) (Or.inl ⟨by rfl, ?_⟩) ?_ ?_
    rotate_left
    · intro w'
      go_simp
      with_reducible rfl
    rotate_left
    · simp only [Act.put, List.setIfInBounds_toArray, List.set_cons_zero, List.set_cons_succ, i64_w, i32_w]
      rfl
    refine pure_ (i := 30) (N := some 47) (v := ?_) (a' := ?_) #[true, true, true, true, true, true, true, true, true, true, true, true, true, true, true, true, true, true, true, true, true, true, true, true, true, true, true, true, true, true, true, false] rfl rfl (any_of HT_.out (by kernel_rfl)) (fun _ _ _ h => h) (Or.inl ⟨by rfl, ?_⟩) ?_ ?_
    rotate_left
    · intro w'
      go_simp
      with_reducible rfl
    rotate_left
    · simp only [Act.put, List.setIfInBounds_toArray, List.set_cons_zero, List.set_cons_succ, i64_w, i32_w]
      rfl
    refine last_ (i := 31) (N := none) #[true, true, true, true, true, true, true, true, true, true, true, true, true, true, true, true, true, true, true, true, true, true, true, true, true, true, true, true, true, true, true, true] rfl rfl (one_of HT_.out (by kernel_rfl)) (by decide) (fun K hK => ?_)
    have e5 := HD.out.at5 t (by rw [w16_length]; omega)
    have f5 := blk_frozen HD.out.b5 t
    refine skip_ (w1 := ?_) (by rfl) rfl ?_ ?_
    rotate_left
    · go_simp
      rfl
    refine hK.out _ _ ?_
    clear hK K
    refine done_ (done_of HT_.out (by kernel_rfl)) ?_
    replace HD := Aside0.mk (HD.out.put t (asm b t))
    go_wp2_with fail
    go_roundw
    case rel => exact ⟨t + 1, by omega, by go_num, HD⟩
    case measure => simp [intOf]; omega
  obtain rfl : t = 16 := by omega
  clear hlt ht
  go_wp2_with fail
  generalize wr = wa at *
  have H0 : Aside0 (BH w wa g2 g3 g4 g5 s b (w64 b 0)) := HX
  clear HX
  go_loopw [7] (fun v7 wi => ∃ (t : Nat), 16 ≤ t ∧ t ≤ 64 ∧ v7 = .int .i64 t ∧ Aside0 (BH w wi g2 g3 g4 g5 s b (w64 b (t - 16)))) (fun v7 _ => 64 - (intOf v7).toNat)
  case atStart => exact ⟨16, by omega, by omega, rfl, H0⟩
  case round =>
  clear H0
  obtain ⟨t, ht0, ht1, rfl, HX⟩ := hrel
  by_cases hlt : t < 64
  · go_wp2_with fail
    have q2 : wrap64 ((t : Int) - 2) = (t : Int) - 2 := by unfold wrap64; omega
    have p2 : (0 ≤ (t : Int) - 2) = True := by simp; omega
    have o2 : (2 ≤ (t : Int)) = True := by simp; omega
    have r2 : ((t : Int) - 2 < 64) = True := by simp; omega
    have q7 : wrap64 ((t : Int) - 7) = (t : Int) - 7 := by unfold wrap64; omega
    have p7 : (0 ≤ (t : Int) - 7) = True := by simp; omega
    have o7 : (7 ≤ (t : Int)) = True := by simp; omega
    have r7 : ((t : Int) - 7 < 64) = True := by simp; omega
    have q15 : wrap64 ((t : Int) - 15) = (t : Int) - 15 := by unfold wrap64; omega
    have p15 : (0 ≤ (t : Int) - 15) = True := by simp; omega
    have o15 : (15 ≤ (t : Int)) = True := by simp; omega
    have r15 : ((t : Int) - 15 < 64) = True := by simp; omega
    have q16 : wrap64 ((t : Int) - 16) = (t : Int) - 16 := by unfold wrap64; omega
    have p16 : (0 ≤ (t : Int) - 16) = True := by simp; omega
    have o16 : (16 ≤ (t : Int)) = True := by simp; omega
    have r16 : ((t : Int) - 16 < 64) = True := by simp; omega
    have r0 : ((t : Int) < 64) = True := by simp; omega
    have c15 := Aside0.mk (HX.out.at5 ((t : Int) - 15).toNat (by rw [w64_length]; omega))
    rw [show ((((t : Int) - 15).toNat : Nat) : Int) = (t : Int) - 15 by omega] at c15
    have HD := Aside0.mk HX.out.drew
    refine start_ (n := 18) (S := fun w' => w'.cell? ⟨g5, ((t : Int) - 15).toNat, none⟩ = some (.int .u32 (rd (w64 b (t - 16)) ((t : Int) - 15)))) (ds := []) #[false, false, false, false, false, false, false, false, false, false, false, false, false, false, false, false, false, false] (by kernel_rfl) rfl rfl c15.out (fun hHeld => ?_)
    refine with_tabW r99_10_tab r99_10_bits (fun HT_ HW_ => ?_)
    generalize World.drew wr = W1 at HD hHeld ⊢
    refine pure_ (i := 0) (N := some 53) (v := ?_) (a' := ?_) #[true, false, false, false, false, false, false, false, false, false, false, false, false, false, false, false, false, false] rfl rfl (any_of HT_.out (by kernel_rfl)) (fun _ _ _ h => h) (Or.inl ⟨by rfl, ?_⟩) ?_ ?_
    rotate_left
    · intro w'
      go_simp
      with_reducible rfl
    rotate_left
    · simp only [Act.put, List.setIfInBounds_toArray, List.set_cons_zero, List.set_cons_succ, i64_w, i32_w]
      rfl
    refine pure_ (i := 1) (N := some 54) (v := ?_) (a' := ?_) #[true, true, false, false, false, false, false, false, false, false, false, false, false, false, false, false, false, false] rfl rfl (any_of HT_.out (by kernel_rfl)) (fun _ _ _ h => h) (Or.inl ⟨by rfl, ?_⟩) ?_ ?_
    rotate_left
    · intro w'
      go_simp
      with_reducible rfl
    rotate_left
    · simp only [Act.put, List.setIfInBounds_toArray, List.set_cons_zero, List.set_cons_succ, i64_w, i32_w]
      rfl
    refine pure_ (i := 2) (N := some 55) (v := ?_) (a' := ?_) #[true, true, true, false, false, false, false, false, false, false, false, false, false, false, false, false, false, false] rfl rfl (any_of HT_.out (by kernel_rfl)) (fun _ _ _ h => h) (Or.inl ⟨by rfl, ?_⟩) ?_ ?_
    rotate_left
    · intro w'
      go_simp
      with_reducible rfl
    rotate_left
    · simp only [Act.put, List.setIfInBounds_toArray, List.set_cons_zero, List.set_cons_succ, i64_w, i32_w]
      rfl
    refine take_ (i := 3) (N := some 56) (v := ?_) (a' := ?_) #[true, true, true, true, false, false, false, false, false, false, false, false, false, false, false, false, false, false] rfl rfl (take_ofW HT_.out HW_.out (by kernel_rfl)) (fun _ _ _ h => h) (Or.inl ⟨by rfl, ?_⟩) hHeld ?_ ?_
    rotate_left
    · rintro w' s0
      go_simp
      with_reducible rfl
    rotate_left
    · simp only [Act.put, List.setIfInBounds_toArray, List.set_cons_zero, List.set_cons_succ, i64_w, i32_w]
      rfl
    refine pure_ (i := 5) (N := some 58) (v := ?_) (a' := ?_) #[true, true, true, true, false, true, false, false, false, false, false, false, false, false, false, false, false, false] rfl rfl (any_of HT_.out (by kernel_rfl)) (fun _ _ _ h => h) (Or.inl ⟨by rfl, ?_⟩) ?_ ?_
    rotate_left
    · intro w'
      go_simp
      with_reducible rfl
    rotate_left
    · simp only [Act.put, List.setIfInBounds_toArray, List.set_cons_zero, List.set_cons_succ, i64_w, i32_w]
      rfl
    refine pure_ (i := 6) (N := some 59) (v := ?_) (a' := ?_) #[true, true, true, true, false, true, true, false, false, false, false, false, false, false, false, false, false, false] rfl rfl (any_of HT_.out (by kernel_rfl)) (fun _ _ _ h => h) (Or.inl ⟨by rfl, ?_⟩) ?_ ?_
    rotate_left
    · intro w'
      go_simp
      with_reducible rfl
    rotate_left
    · simp only [Act.put, List.setIfInBounds_toArray, List.set_cons_zero, List.set_cons_succ, i64_w, i32_w]
      rfl
    refine pure_ (i := 7) (N := some 60) (v := ?_) (a' := ?_) #[true, true, true, true, false, true, true, true, false, false, false, false, false, false, false, false, false, false] rfl rfl (any_of HT_.out (by kernel_rfl)) (fun _ _ _ h => h) (Or.inl ⟨by rfl, ?_⟩) ?_ ?_
    rotate_left
    · intro w'
      go_simp
      with_reducible rfl
    rotate_left
    · simp only [Act.put, List.setIfInBounds_toArray, List.set_cons_zero, List.set_cons_succ, i64_w, i32_w]
      rfl
    refine take_ (i := 8) (N := some 61) (v := ?_) (a' := ?_) #[true, true, true, true, false, true, true, true, true, false, false, false, false, false, false, false, false, false] rfl rfl (take_ofW HT_.out HW_.out (by kernel_rfl)) (fun _ _ _ h => h) (Or.inl ⟨by rfl, ?_⟩) hHeld ?_ ?_
    rotate_left
    · rintro w' s0
      go_simp
      with_reducible rfl
    rotate_left
    · simp only [Act.put, List.setIfInBounds_toArray, List.set_cons_zero, List.set_cons_succ, i64_w, i32_w]
      rfl
    refine pure_ (i := 11) (N := some 64) (v := ?_) (a' := ?_) #[true, true, true, true, false, true, true, true, true, false, false, true, false, false, false, false, false, false] rfl rfl (any_of HT_.out (by kernel_rfl)) (fun _ _ _ h => h) (Or.inl ⟨by rfl, ?_⟩) ?_ ?_
    rotate_left
    · intro w'
      go_simp
      with_reducible rfl
    rotate_left
    · simp only [Act.put, List.setIfInBounds_toArray, List.set_cons_zero, List.set_cons_succ, i64_w, i32_w]
      rfl
    refine pure_ (i := 12) (N := some 65) (v := ?_) (a' := ?_) #[true, true, true, true, false, true, true, true, true, false, false, true, true, false, false, false, false, false] rfl rfl (any_of HT_.out (by kernel_rfl)) (fun _ _ _ h => h) (Or.inl ⟨by rfl, ?_⟩) ?_ ?_
    rotate_left
    · intro w'
      go_simp
      with_reducible rfl
    rotate_left
    · simp only [Act.put, List.setIfInBounds_toArray, List.set_cons_zero, List.set_cons_succ, i64_w, i32_w]
      rfl
    refine pure_ (i := 13) (N := some 66) (v := ?_) (a' := ?_) #[true, true, true, true, false, true, true, true, true, false, false, true, true, true, false, false, false, false] rfl rfl (any_of HT_.out (by kernel_rfl)) (fun _ _ _ h => h) (Or.inl ⟨by rfl, ?_⟩) ?_ ?_
    rotate_left
    · intro w'
      go_simp
      with_reducible rfl
    rotate_left
    · simp only [Act.put, List.setIfInBounds_toArray, List.set_cons_zero, List.set_cons_succ, i64_w, i32_w]
      rfl
    refine take_ (i := 14) (N := some 67) (v := ?_) (a' := ?_) #[true, true, true, true, false, true, true, true, true, false, false, true, true, true, true, false, false, false] rfl rfl (take_ofW HT_.out HW_.out (by kernel_rfl)) (fun _ _ _ h => h) (Or.inl ⟨by rfl, ?_⟩) hHeld ?_ ?_
    rotate_left
    · rintro w' s0
      go_simp
      with_reducible rfl
    rotate_left
    · simp only [Act.put, List.setIfInBounds_toArray, List.set_cons_zero, List.set_cons_succ, i64_w, i32_w]
      rfl
    refine pure_ (i := 15) (N := some 68) (v := ?_) (a' := ?_) #[true, true, true, true, false, true, true, true, true, false, false, true, true, true, true, true, false, false] rfl rfl (any_of HT_.out (by kernel_rfl)) (fun _ _ _ h => h) (Or.inl ⟨by rfl, ?_⟩) ?_ ?_
    rotate_left
    · intro w'
      go_simp
      with_reducible rfl
    rotate_left
    · simp only [Act.put, List.setIfInBounds_toArray, List.set_cons_zero, List.set_cons_succ, i64_w, i32_w]
      rfl
    refine one_ (i := 4) (N := some 57) #[true, true, true, true, true, true, true, true, true, false, false, true, true, true, true, true, false, false] rfl rfl (one_of HT_.out (by kernel_rfl)) (by decide) (fun K hK => ?_)
    refine goes_ Try.func105 (by kernel_rfl) rfl #[.int .u32 (rd (w64 b (t - 16)) ((t : Int) - 15)), .int .u64 7] (by rfl) rfl rfl (by (try simp only [List.map_toArray, List.map_cons, List.map_nil]); first | done | rfl) ?_
    refine (rotr_calls _ 7 W1 (by decide) (by decide)).mono ?_
    rintro e W2 ⟨rfl, hb2⟩
    refine ⟨_, rfl, ?_⟩
    have HD2 := Aside0.mk (HD.out.next hb2)
    refine hK.out _ _ (pw_cell_below hb2 hHeld) (fun hHeld => ?_)
    clear hK K
    refine norm_ (a' := ?_) ?_ ?_
    rotate_left
    · show Act.put _ (some 57) _ = _
      simp only [Act.put, List.setIfInBounds_toArray, List.set_cons_zero, List.set_cons_succ, i64_w, i32_w]
      rfl
    clear hb2 HD
    refine one_ (i := 9) (N := some 62) #[true, true, true, true, true, true, true, true, true, true, false, true, true, true, true, true, false, false] rfl rfl (one_of HT_.out (by kernel_rfl)) (by decide) (fun K hK => ?_)
    refine goes_ Try.func105 (by kernel_rfl) rfl #[.int .u32 (rd (w64 b (t - 16)) ((t : Int) - 15)), .int .u64 18] (by rfl) rfl rfl (by (try simp only [List.map_toArray, List.map_cons, List.map_nil]); first | done | rfl) ?_
    refine (rotr_calls _ 18 W2 (by decide) (by decide)).mono ?_
    rintro e W3 ⟨rfl, hb3⟩
    refine ⟨_, rfl, ?_⟩
    have HD := Aside0.mk (HD2.out.next hb3)
    refine hK.out _ _ (pw_cell_below hb3 hHeld) (fun hHeld => ?_)
    clear hK K
    refine norm_ (a' := ?_) ?_ ?_
    rotate_left
    · show Act.put _ (some 62) _ = _
      simp only [Act.put, List.setIfInBounds_toArray, List.set_cons_zero, List.set_cons_succ, i64_w, i32_w]
      rfl
    clear hb3 HD2
    refine pure_ (i := 10) (N := some 63) (v := ?_) (a' := ?_) #[true, true, true, true, true, true, true, true, true, true, true, true, true, true, true, true, false, false] rfl rfl (any_of HT_.out (by kernel_rfl)) (fun _ _ _ h => h) (Or.inl ⟨by rfl, ?_⟩) ?_ ?_
    rotate_left
    · intro w'
      go_simp
      with_reducible rfl
    rotate_left
    · simp only [Act.put, List.setIfInBounds_toArray, List.set_cons_zero, List.set_cons_succ, i64_w, i32_w]
      rfl
    refine pure_ (i := 16) (N := some 69) (v := ?_) (a' := ?_) #[true, true, true, true, true, true, true, true, true, true, true, true, true, true, true, true, true, false] rfl rfl (any_of HT_.out (by kernel_rfl)) (fun _ _ _ h => h) (Or.inl ⟨by rfl, ?_⟩) ?_ ?_
    rotate_left
    · intro w'
      go_simp
      with_reducible rfl
    rotate_left
    · simp only [Act.put, List.setIfInBounds_toArray, List.set_cons_zero, List.set_cons_succ, i64_w, i32_w]
      rfl
    refine pure_ (i := 17) (N := some 8) (v := ?_) (a' := ?_) #[true, true, true, true, true, true, true, true, true, true, true, true, true, true, true, true, true, true] rfl rfl (any_of HT_.out (by kernel_rfl)) (fun _ _ _ h => h) (Or.inl ⟨by rfl, ?_⟩) ?_ ?_
    rotate_left
    · intro w'
      go_simp
      with_reducible rfl
    rotate_left
    · simp only [Act.put, List.setIfInBounds_toArray, List.set_cons_zero, List.set_cons_succ, i64_w, i32_w]
      rfl
    refine done_ (done_of HT_.out (by kernel_rfl)) ?_
    clear hHeld HX c15
    have HX := HD
    clear HD
    go_wp2_with fail
    have c2 := Aside0.mk (HX.out.at5 ((t : Int) - 2).toNat (by rw [w64_length]; omega))
    rw [show ((((t : Int) - 2).toNat : Nat) : Int) = (t : Int) - 2 by omega] at c2
    have HD := Aside0.mk HX.out.drew
    refine start_ (n := 18) (S := fun w' => w'.cell? ⟨g5, ((t : Int) - 2).toNat, none⟩ = some (.int .u32 (rd (w64 b (t - 16)) ((t : Int) - 2)))) (ds := []) #[false, false, false, false, false, false, false, false, false, false, false, false, false, false, false, false, false, false] (by kernel_rfl) rfl rfl c2.out (fun hHeld => ?_)
    refine with_tabW r99_11_tab r99_11_bits (fun HT_ HW_ => ?_)
    generalize World.drew W3 = W1 at HD hHeld ⊢
    refine pure_ (i := 0) (N := some 70) (v := ?_) (a' := ?_) #[true, false, false, false, false, false, false, false, false, false, false, false, false, false, false, false, false, false] rfl rfl (any_of HT_.out (by kernel_rfl)) (fun _ _ _ h => h) (Or.inl ⟨by rfl, ?_⟩) ?_ ?_
    rotate_left
    · intro w'
      go_simp
      with_reducible rfl
    rotate_left
    · simp only [Act.put, List.setIfInBounds_toArray, List.set_cons_zero, List.set_cons_succ, i64_w, i32_w]
      rfl
    refine pure_ (i := 1) (N := some 71) (v := ?_) (a' := ?_) #[true, true, false, false, false, false, false, false, false, false, false, false, false, false, false, false, false, false] rfl rfl (any_of HT_.out (by kernel_rfl)) (fun _ _ _ h => h) (Or.inl ⟨by rfl, ?_⟩) ?_ ?_
    rotate_left
    · intro w'
      go_simp
      with_reducible rfl
    rotate_left
    · simp only [Act.put, List.setIfInBounds_toArray, List.set_cons_zero, List.set_cons_succ, i64_w, i32_w]
      rfl
    refine pure_ (i := 2) (N := some 72) (v := ?_) (a' := ?_) #[true, true, true, false, false, false, false, false, false, false, false, false, false, false, false, false, false, false] rfl rfl (any_of HT_.out (by kernel_rfl)) (fun _ _ _ h => h) (Or.inl ⟨by rfl, ?_⟩) ?_ ?_
    rotate_left
    · intro w'
      go_simp
      with_reducible rfl
    rotate_left
    · simp only [Act.put, List.setIfInBounds_toArray, List.set_cons_zero, List.set_cons_succ, i64_w, i32_w]
      rfl
    refine take_ (i := 3) (N := some 73) (v := ?_) (a' := ?_) #[true, true, true, true, false, false, false, false, false, false, false, false, false, false, false, false, false, false] rfl rfl (take_ofW HT_.out HW_.out (by kernel_rfl)) (fun _ _ _ h => h) (Or.inl ⟨by rfl, ?_⟩) hHeld ?_ ?_
    rotate_left
    · rintro w' s0
      go_simp
      with_reducible rfl
    rotate_left
    · simp only [Act.put, List.setIfInBounds_toArray, List.set_cons_zero, List.set_cons_succ, i64_w, i32_w]
      rfl
    refine pure_ (i := 5) (N := some 75) (v := ?_) (a' := ?_) #[true, true, true, true, false, true, false, false, false, false, false, false, false, false, false, false, false, false] rfl rfl (any_of HT_.out (by kernel_rfl)) (fun _ _ _ h => h) (Or.inl ⟨by rfl, ?_⟩) ?_ ?_
    rotate_left
    · intro w'
      go_simp
      with_reducible rfl
    rotate_left
    · simp only [Act.put, List.setIfInBounds_toArray, List.set_cons_zero, List.set_cons_succ, i64_w, i32_w]
      rfl
    refine pure_ (i := 6) (N := some 76) (v := ?_) (a' := ?_) #[true, true, true, true, false, true, true, false, false, false, false, false, false, false, false, false, false, false] rfl rfl (any_of HT_.out (by kernel_rfl)) (fun _ _ _ h => h) (Or.inl ⟨by rfl, ?_⟩) ?_ ?_
    rotate_left
    · intro w'
      go_simp
      with_reducible rfl
    rotate_left
    · simp only [Act.put, List.setIfInBounds_toArray, List.set_cons_zero, List.set_cons_succ, i64_w, i32_w]
      rfl
    refine pure_ (i := 7) (N := some 77) (v := ?_) (a' := ?_) #[true, true, true, true, false, true, true, true, false, false, false, false, false, false, false, false, false, false] rfl rfl (any_of HT_.out (by kernel_rfl)) (fun _ _ _ h => h) (Or.inl ⟨by rfl, ?_⟩) ?_ ?_
    rotate_left
    · intro w'
      go_simp
      with_reducible rfl
    rotate_left
    · simp only [Act.put, List.setIfInBounds_toArray, List.set_cons_zero, List.set_cons_succ, i64_w, i32_w]
      rfl
    refine take_ (i := 8) (N := some 78) (v := ?_) (a' := ?_) #[true, true, true, true, false, true, true, true, true, false, false, false, false, false, false, false, false, false] rfl rfl (take_ofW HT_.out HW_.out (by kernel_rfl)) (fun _ _ _ h => h) (Or.inl ⟨by rfl, ?_⟩) hHeld ?_ ?_
    rotate_left
    · rintro w' s0
      go_simp
      with_reducible rfl
    rotate_left
    · simp only [Act.put, List.setIfInBounds_toArray, List.set_cons_zero, List.set_cons_succ, i64_w, i32_w]
      rfl
    refine pure_ (i := 11) (N := some 81) (v := ?_) (a' := ?_) #[true, true, true, true, false, true, true, true, true, false, false, true, false, false, false, false, false, false] rfl rfl (any_of HT_.out (by kernel_rfl)) (fun _ _ _ h => h) (Or.inl ⟨by rfl, ?_⟩) ?_ ?_
    rotate_left
    · intro w'
      go_simp
      with_reducible rfl
    rotate_left
    · simp only [Act.put, List.setIfInBounds_toArray, List.set_cons_zero, List.set_cons_succ, i64_w, i32_w]
      rfl
    refine pure_ (i := 12) (N := some 82) (v := ?_) (a' := ?_) #[true, true, true, true, false, true, true, true, true, false, false, true, true, false, false, false, false, false] rfl rfl (any_of HT_.out (by kernel_rfl)) (fun _ _ _ h => h) (Or.inl ⟨by rfl, ?_⟩) ?_ ?_
    rotate_left
    · intro w'
      go_simp
      with_reducible rfl
    rotate_left
    · simp only [Act.put, List.setIfInBounds_toArray, List.set_cons_zero, List.set_cons_succ, i64_w, i32_w]
      rfl
    refine pure_ (i := 13) (N := some 83) (v := ?_) (a' := ?_) #[true, true, true, true, false, true, true, true, true, false, false, true, true, true, false, false, false, false] rfl rfl (any_of HT_.out (by kernel_rfl)) (fun _ _ _ h => h) (Or.inl ⟨by rfl, ?_⟩) ?_ ?_
    rotate_left
    · intro w'
      go_simp
      with_reducible rfl
    rotate_left
    · simp only [Act.put, List.setIfInBounds_toArray, List.set_cons_zero, List.set_cons_succ, i64_w, i32_w]
      rfl
    refine take_ (i := 14) (N := some 84) (v := ?_) (a' := ?_) #[true, true, true, true, false, true, true, true, true, false, false, true, true, true, true, false, false, false] rfl rfl (take_ofW HT_.out HW_.out (by kernel_rfl)) (fun _ _ _ h => h) (Or.inl ⟨by rfl, ?_⟩) hHeld ?_ ?_
    rotate_left
    · rintro w' s0
      go_simp
      with_reducible rfl
    rotate_left
    · simp only [Act.put, List.setIfInBounds_toArray, List.set_cons_zero, List.set_cons_succ, i64_w, i32_w]
      rfl
    refine pure_ (i := 15) (N := some 85) (v := ?_) (a' := ?_) #[true, true, true, true, false, true, true, true, true, false, false, true, true, true, true, true, false, false] rfl rfl (any_of HT_.out (by kernel_rfl)) (fun _ _ _ h => h) (Or.inl ⟨by rfl, ?_⟩) ?_ ?_
    rotate_left
    · intro w'
      go_simp
      with_reducible rfl
    rotate_left
    · simp only [Act.put, List.setIfInBounds_toArray, List.set_cons_zero, List.set_cons_succ, i64_w, i32_w]
      rfl
    refine one_ (i := 4) (N := some 74) #[true, true, true, true, true, true, true, true, true, false, false, true, true, true, true, true, false, false] rfl rfl (one_of HT_.out (by kernel_rfl)) (by decide) (fun K hK => ?_)
    refine goes_ Try.func105 (by kernel_rfl) rfl #[.int .u32 (rd (w64 b (t - 16)) ((t : Int) - 2)), .int .u64 17] (by rfl) rfl rfl (by (try simp only [List.map_toArray, List.map_cons, List.map_nil]); first | done | rfl) ?_
    refine (rotr_calls _ 17 W1 (by decide) (by decide)).mono ?_
    rintro e W2 ⟨rfl, hb2⟩
    refine ⟨_, rfl, ?_⟩
    have HD2 := Aside0.mk (HD.out.next hb2)
    refine hK.out _ _ (pw_cell_below hb2 hHeld) (fun hHeld => ?_)
    clear hK K
    refine norm_ (a' := ?_) ?_ ?_
    rotate_left
    · show Act.put _ (some 74) _ = _
      simp only [Act.put, List.setIfInBounds_toArray, List.set_cons_zero, List.set_cons_succ, i64_w, i32_w]
      rfl
    clear hb2 HD
    refine one_ (i := 9) (N := some 79) #[true, true, true, true, true, true, true, true, true, true, false, true, true, true, true, true, false, false] rfl rfl (one_of HT_.out (by kernel_rfl)) (by decide) (fun K hK => ?_)
    refine goes_ Try.func105 (by kernel_rfl) rfl #[.int .u32 (rd (w64 b (t - 16)) ((t : Int) - 2)), .int .u64 19] (by rfl) rfl rfl (by (try simp only [List.map_toArray, List.map_cons, List.map_nil]); first | done | rfl) ?_
    refine (rotr_calls _ 19 W2 (by decide) (by decide)).mono ?_
    rintro e W5 ⟨rfl, hb3⟩
    refine ⟨_, rfl, ?_⟩
    have HD := Aside0.mk (HD2.out.next hb3)
    refine hK.out _ _ (pw_cell_below hb3 hHeld) (fun hHeld => ?_)
    clear hK K
    refine norm_ (a' := ?_) ?_ ?_
    rotate_left
    · show Act.put _ (some 79) _ = _
      simp only [Act.put, List.setIfInBounds_toArray, List.set_cons_zero, List.set_cons_succ, i64_w, i32_w]
      rfl
    clear hb3 HD2
    refine pure_ (i := 10) (N := some 80) (v := ?_) (a' := ?_) #[true, true, true, true, true, true, true, true, true, true, true, true, true, true, true, true, false, false] rfl rfl (any_of HT_.out (by kernel_rfl)) (fun _ _ _ h => h) (Or.inl ⟨by rfl, ?_⟩) ?_ ?_
    rotate_left
    · intro w'
      go_simp
      with_reducible rfl
    rotate_left
    · simp only [Act.put, List.setIfInBounds_toArray, List.set_cons_zero, List.set_cons_succ, i64_w, i32_w]
      rfl
    refine pure_ (i := 16) (N := some 86) (v := ?_) (a' := ?_) #[true, true, true, true, true, true, true, true, true, true, true, true, true, true, true, true, true, false] rfl rfl (any_of HT_.out (by kernel_rfl)) (fun _ _ _ h => h) (Or.inl ⟨by rfl, ?_⟩) ?_ ?_
    rotate_left
    · intro w'
      go_simp
      with_reducible rfl
    rotate_left
    · simp only [Act.put, List.setIfInBounds_toArray, List.set_cons_zero, List.set_cons_succ, i64_w, i32_w]
      rfl
    refine pure_ (i := 17) (N := some 9) (v := ?_) (a' := ?_) #[true, true, true, true, true, true, true, true, true, true, true, true, true, true, true, true, true, true] rfl rfl (any_of HT_.out (by kernel_rfl)) (fun _ _ _ h => h) (Or.inl ⟨by rfl, ?_⟩) ?_ ?_
    rotate_left
    · intro w'
      go_simp
      with_reducible rfl
    rotate_left
    · simp only [Act.put, List.setIfInBounds_toArray, List.set_cons_zero, List.set_cons_succ, i64_w, i32_w]
      rfl
    refine done_ (done_of HT_.out (by kernel_rfl)) ?_
    clear hHeld HX c2
    have HX := HD
    clear HD
    go_wp2_with fail
    have c7 := Aside0.mk (HX.out.at5 ((t : Int) - 7).toNat (by rw [w64_length]; omega))
    rw [show ((((t : Int) - 7).toNat : Nat) : Int) = (t : Int) - 7 by omega] at c7
    have c16 := Aside0.mk (HX.out.at5 ((t : Int) - 16).toNat (by rw [w64_length]; omega))
    rw [show ((((t : Int) - 16).toNat : Nat) : Int) = (t : Int) - 16 by omega] at c16
    have HD := Aside0.mk HX.out.drew
    refine start_ (n := 16) (S := fun w' => w'.cell? ⟨g5, ((t : Int) - 7).toNat, none⟩ = some (.int .u32 (rd (w64 b (t - 16)) ((t : Int) - 7))) ∧ w'.cell? ⟨g5, ((t : Int) - 16).toNat, none⟩ = some (.int .u32 (rd (w64 b (t - 16)) ((t : Int) - 16)))) (ds := [15]) #[false, false, false, false, false, false, false, false, false, false, false, false, false, false, false, false] (by kernel_rfl) rfl rfl ⟨c7.out, c16.out⟩ (fun hHeld => ?_)
    refine with_tabW r99_12_tab r99_12_bits (fun HT_ HW_ => ?_)
    generalize World.drew W5 = W1 at HD hHeld ⊢
    refine pure_ (i := 0) (N := some 87) (v := ?_) (a' := ?_) #[true, false, false, false, false, false, false, false, false, false, false, false, false, false, false, false] rfl rfl (any_of HT_.out (by kernel_rfl)) (fun _ _ _ h => h) (Or.inl ⟨by rfl, ?_⟩) ?_ ?_
    rotate_left
    · intro w'
      go_simp
      with_reducible rfl
    rotate_left
    · simp only [Act.put, List.setIfInBounds_toArray, List.set_cons_zero, List.set_cons_succ, i64_w, i32_w]
      rfl
    refine pure_ (i := 1) (N := some 88) (v := ?_) (a' := ?_) #[true, true, false, false, false, false, false, false, false, false, false, false, false, false, false, false] rfl rfl (any_of HT_.out (by kernel_rfl)) (fun _ _ _ h => h) (Or.inl ⟨by rfl, ?_⟩) ?_ ?_
    rotate_left
    · intro w'
      go_simp
      with_reducible rfl
    rotate_left
    · simp only [Act.put, List.setIfInBounds_toArray, List.set_cons_zero, List.set_cons_succ, i64_w, i32_w]
      rfl
    refine pure_ (i := 2) (N := some 89) (v := ?_) (a' := ?_) #[true, true, true, false, false, false, false, false, false, false, false, false, false, false, false, false] rfl rfl (any_of HT_.out (by kernel_rfl)) (fun _ _ _ h => h) (Or.inl ⟨by rfl, ?_⟩) ?_ ?_
    rotate_left
    · intro w'
      go_simp
      with_reducible rfl
    rotate_left
    · simp only [Act.put, List.setIfInBounds_toArray, List.set_cons_zero, List.set_cons_succ, i64_w, i32_w]
      rfl
    refine pure_ (i := 3) (N := some 90) (v := ?_) (a' := ?_) #[true, true, true, true, false, false, false, false, false, false, false, false, false, false, false, false] rfl rfl (any_of HT_.out (by kernel_rfl)) (fun _ _ _ h => h) (Or.inl ⟨by rfl, ?_⟩) ?_ ?_
    rotate_left
    · intro w'
      go_simp
      with_reducible rfl
    rotate_left
    · simp only [Act.put, List.setIfInBounds_toArray, List.set_cons_zero, List.set_cons_succ, i64_w, i32_w]
      rfl
    refine pure_ (i := 4) (N := some 91) (v := ?_) (a' := ?_) #[true, true, true, true, true, false, false, false, false, false, false, false, false, false, false, false] rfl rfl (any_of HT_.out (by kernel_rfl)) (fun _ _ _ h => h) (Or.inl ⟨by rfl, ?_⟩) ?_ ?_
    rotate_left
    · intro w'
      go_simp
      with_reducible rfl
    rotate_left
    · simp only [Act.put, List.setIfInBounds_toArray, List.set_cons_zero, List.set_cons_succ, i64_w, i32_w]
      rfl
    refine take_ (i := 5) (N := some 92) (v := ?_) (a' := ?_) #[true, true, true, true, true, true, false, false, false, false, false, false, false, false, false, false] rfl rfl (take_ofW HT_.out HW_.out (by kernel_rfl)) (fun _ _ _ h => h) (Or.inl ⟨by rfl, ?_⟩) hHeld ?_ ?_
    rotate_left
    · rintro w' ⟨s0, s1⟩
      go_simp
      with_reducible rfl
    rotate_left
    · simp only [Act.put, List.setIfInBounds_toArray, List.set_cons_zero, List.set_cons_succ, i64_w, i32_w]
      rfl
    refine pure_ (i := 6) (N := some 93) (v := ?_) (a' := ?_) #[true, true, true, true, true, true, true, false, false, false, false, false, false, false, false, false] rfl rfl (any_of HT_.out (by kernel_rfl)) (fun _ _ _ h => h) (Or.inl ⟨by rfl, ?_⟩) ?_ ?_
    rotate_left
    · intro w'
      go_simp
      with_reducible rfl
    rotate_left
    · simp only [Act.put, List.setIfInBounds_toArray, List.set_cons_zero, List.set_cons_succ, i64_w, i32_w]
      rfl
    refine pure_ (i := 7) (N := some 94) (v := ?_) (a' := ?_) #[true, true, true, true, true, true, true, true, false, false, false, false, false, false, false, false] rfl rfl (any_of HT_.out (by kernel_rfl)) (fun _ _ _ h => h) (Or.inl ⟨by rfl, ?_⟩) ?_ ?_
    rotate_left
    · intro w'
      go_simp
      with_reducible rfl
    rotate_left
    · simp only [Act.put, List.setIfInBounds_toArray, List.set_cons_zero, List.set_cons_succ, i64_w, i32_w]
      rfl
    refine pure_ (i := 8) (N := some 95) (v := ?_) (a' := ?_) #[true, true, true, true, true, true, true, true, true, false, false, false, false, false, false, false] rfl rfl (any_of HT_.out (by kernel_rfl)) (fun _ _ _ h => h) (Or.inl ⟨by rfl, ?_⟩) ?_ ?_
    rotate_left
    · intro w'
      go_simp
      with_reducible rfl
    rotate_left
    · simp only [Act.put, List.setIfInBounds_toArray, List.set_cons_zero, List.set_cons_succ, i64_w, i32_w]
      rfl
    refine pure_ (i := 9) (N := some 96) (v := ?_) (a' := ?_) #[true, true, true, true, true, true, true, true, true, true, false, false, false, false, false, false] rfl rfl (any_of HT_.out (by kernel_rfl)) (fun _ _ _ h => h) (Or.inl ⟨by rfl, ?_⟩) ?_ ?_
    rotate_left
    · intro w'
      go_simp
      with_reducible rfl
    rotate_left
    · simp only [Act.put, List.setIfInBounds_toArray, List.set_cons_zero, List.set_cons_succ, i64_w, i32_w]
      rfl
    refine pure_ (i := 10) (N := some 97) (v := ?_) (a' := ?_) #[true, true, true, true, true, true, true, true, true, true, true, false, false, false, false, false] rfl rfl (any_of HT_.out (by kernel_rfl)) (fun _ _ _ h => h) (Or.inl ⟨by rfl, ?_⟩) ?_ ?_
    rotate_left
    · intro w'
      go_simp
      with_reducible rfl
    rotate_left
    · simp only [Act.put, List.setIfInBounds_toArray, List.set_cons_zero, List.set_cons_succ, i64_w, i32_w]
      rfl
    refine pure_ (i := 11) (N := some 98) (v := ?_) (a' := ?_) #[true, true, true, true, true, true, true, true, true, true, true, true, false, false, false, false] rfl rfl (any_of HT_.out (by kernel_rfl)) (fun _ _ _ h => h) (Or.inl ⟨by rfl, ?_⟩) ?_ ?_
    rotate_left
    · intro w'
      go_simp
      with_reducible rfl
    rotate_left
    · simp only [Act.put, List.setIfInBounds_toArray, List.set_cons_zero, List.set_cons_succ, i64_w, i32_w]
      rfl
    refine take_ (i := 12) (N := some 99) (v := ?_) (a' := ?_) #[true, true, true, true, true, true, true, true, true, true, true, true, true, false, false, false] rfl rfl (take_ofW HT_.out HW_.out (by kernel_rfl)) (fun _ _ _ h => h) (Or.inl ⟨by rfl, ?_⟩) hHeld ?_ ?_
    rotate_left
    · rintro w' ⟨s0, s1⟩
      go_simp
      with_reducible rfl
    rotate_left
    · simp only [Act.put, List.setIfInBounds_toArray, List.set_cons_zero, List.set_cons_succ, i64_w, i32_w]
      rfl
    refine pure_ (i := 13) (N := some 100) (v := ?_) (a' := ?_) #[true, true, true, true, true, true, true, true, true, true, true, true, true, true, false, false] rfl rfl (any_of HT_.out (by kernel_rfl)) (fun _ _ _ h => h) (Or.inl ⟨by rfl, ?_⟩) ?_ ?_
    rotate_left
    · intro w'
      go_simp
      with_reducible rfl
    rotate_left
    · simp only [Act.put, List.setIfInBounds_toArray, List.set_cons_zero, List.set_cons_succ, i64_w, i32_w]
      rfl
    refine pure_ (i := 14) (N := some 101) (v := ?_) (a' := ?_) #[true, true, true, true, true, true, true, true, true, true, true, true, true, true, true, false] rfl rfl (any_of HT_.out (by kernel_rfl)) (fun _ _ _ h => h) (Or.inl ⟨by rfl, ?_⟩) ?_ ?_
    rotate_left
    · intro w'
      go_simp
      with_reducible rfl
    rotate_left
    · simp only [Act.put, List.setIfInBounds_toArray, List.set_cons_zero, List.set_cons_succ, i64_w, i32_w]
      rfl
    refine last_ (i := 15) (N := none) #[true, true, true, true, true, true, true, true, true, true, true, true, true, true, true, true] rfl rfl (one_of HT_.out (by kernel_rfl)) (by decide) (fun K hK => ?_)
    have e5 := HD.out.at5 t (by rw [w64_length]; omega)
    have f5 := blk_frozen HD.out.b5 t
    refine skip_ (w1 := ?_) (by rfl) rfl ?_ ?_
    rotate_left
    · go_simp
      rfl
    refine hK.out _ _ ?_
    clear hK K
    refine done_ (done_of HT_.out (by kernel_rfl)) ?_
    have HN : Aside0 (w64 b (t + 1 - 16) = (w64 b (t - 16)).set t (nx (w64 b (t - 16)) (t : Int))) := ⟨by
      obtain ⟨u, rfl⟩ : ∃ u, t = 16 + u := ⟨t - 16, by omega⟩
      have e1 : 16 + u + 1 - 16 = u + 1 := by omega
      have e2 : 16 + u - 16 = u := by omega
      rw [e1, e2]
      rfl⟩
    replace HD := Aside0.mk (HD.out.put t (nx (w64 b (t - 16)) (t : Int)))
    rw [← HN.out] at HD
    clear e5 f5 HX c7 c16 hHeld
    go_wp2_with fail
    go_roundw
    case rel => exact ⟨t + 1, by omega, by omega, by go_num, HD⟩
    case measure => simp [intOf]; omega
  obtain rfl : t = 64 := by omega
  clear hlt ht0 ht1
  go_wp2_with (first
    | ((with_reducible refine gate_dst (N := 102) rfl ?_); refine get_row rfl rfl rfl HX.out.b2 Try.underlying110 rfl (info110.trans (by rw [size_u32s, HS.out])) rfl ?_)
    | ((with_reducible refine gate_dst (N := 10) rfl ?_); refine box_event_ 110 (u32s (List.replicate 8 0)) rfl rfl (by first | (go_simp; done) | (go_simp; rfl)) ?_; intro g10 w10 hg hA hb; have HA := Aside0.mk hA; have HB := Aside0.mk hb; have HG := Aside0.mk hg; clear hg hA hb)
    | ((with_reducible refine gate_store (t := 110) (p := 10) rfl ?_); refine put_row rfl rfl rfl (g := g10) (u32s s) rfl rfl HA.out (info110.trans (by rw [size_u32s, HS.out])) (by rw [size_u32s, size_u32s, HS.out]; rfl) (all_one _ _) ?_; intro w11 h1 h2; have HR := Aside0.mk h1; have HWr := Aside0.mk h2; clear h1 h2)
    | (go_at_call 106; refine (table_calls _).mono ?_; rintro e w12 ⟨rfl, hb⟩; have HT := Aside0.mk hb; clear hb)
    | ((with_reducible refine gate_dst (N := 11) rfl ?_); refine box_event_ 124 (u32s (List.replicate 64 0)) rfl rfl (by first | (go_simp; done) | (go_simp; rfl)) ?_; intro g11 w13 hg hA hb; have HA11 := Aside0.mk hA; have HB11 := Aside0.mk hb; have HG11 := Aside0.mk hg; clear hg hA hb)
    | ((with_reducible refine gate_store (t := 124) (p := 11) rfl ?_); refine put_row rfl rfl rfl (g := g11) (u32s kT) rfl rfl HA11.out info124 rfl (all_one _ _) ?_; intro w14 h1 h2; have HR11 := Aside0.mk h1; have HW11 := Aside0.mk h2; clear h1 h2))
  have H0 : Aside0 (CH w w14 g2 g4 g5 g10 g11 s (w64 b 48) (rounds (w64 b 48) s 0)) := ⟨by
    have hx := HX.out
    have k2 := blk_lt hx.b2
    have k4 := blk_lt hx.b4
    have k5 := blk_lt hx.b5
    have hg := HG.out
    have hB := HB.out
    have e1 := hB.size
    have hw1 := HWr.out
    have e0 : w11.heap.size = w10.heap.size := by obtain ⟨cs, rfl⟩ := hw1; simp [World.setRow]
    have hT := HT.out
    have e2 := hT.size
    have hB11 := HB11.out
    have e3 := hB11.size
    have hg11 := HG11.out
    have hw2 := HW11.out
    have k10 := blk_lt HA.out
    have below12 : Below w.heap.size w w12 := below_then (hw1.below (below_step hx.below hB) (by have := hx.below.size; omega)) (by have := hx.below.size; omega) hT
    have to14 : ∀ {k : Nat} {o : Obj}, w12.heap[k]? = some o → w14.heap[k]? = some o := fun {k o} h => hw2.other ((hB11.block k (blk_lt h)).trans h) (by have := blk_lt h; omega)
    have to12 : ∀ {k : Nat} {o : Obj}, wr.heap[k]? = some o → w12.heap[k]? = some o := fun {k o} h => by
      have hl := blk_lt h
      have h1 : w10.heap[k]? = some o := (hB.block k hl).trans h
      have h2 : w11.heap[k]? = some o := hw1.other h1 (by omega)
      exact (hT.block k (blk_lt h2)).trans h2
    have r10 : w12.heap[g10]? = some (.cells (u32s s) 110 (0, 0)) := (hT.block g10 (blk_lt HR.out)).trans HR.out
    have lw := hx.below.size
    refine ⟨hw2.below (below_then below12 (by omega) hB11) (by omega), to14 (to12 hx.b2), to14 (to12 hx.b4), to14 (to12 hx.b5), to14 r10, HR11.out, hx.l4, by omega, by omega, by omega, by omega, ?_⟩
    have := blk_lt r10
    omega⟩
  clear HX HA HB HG HR HWr HT HA11 HB11 HG11 HR11 HW11
  go_loopw [104] (fun v104 wi => ∃ (t : Nat), t ≤ 64 ∧ v104 = .int .i64 t ∧ Aside0 (CH w wi g2 g4 g5 g10 g11 s (w64 b 48) (rounds (w64 b 48) s t))) (fun v104 _ => 64 - (intOf v104).toNat)
  case atStart => exact ⟨0, by omega, rfl, H0⟩
  case round =>
  clear H0
  obtain ⟨t, ht, rfl, HX⟩ := hrel
  by_cases hlt : t < 64
  · go_wp2_with fail
    have r0 : ((t : Int) < 64) = True := by simp; omega
    have HD := Aside0.mk HX.out.drew
    have k0 := (blk_cell HX.out.b11 t).trans (u32s_at kT t hlt)
    have m0 := (blk_cell HX.out.b5 t).trans (u32s_at (w64 b 48) t (by rw [w64_length]; omega))
    have HRL : Aside0 ((rounds (w64 b 48) s t).length = 8) := ⟨rounds_length _ _ HS.out t⟩
    have HK := Aside0.mk k0
    have HM := Aside0.mk m0
    clear k0 m0
    refine start_ (n := 10) (S := fun w' => w'.heap[g10]? = some (.cells (u32s (rounds (w64 b 48) s t)) 110 (0, 0)) ∧ w'.cell? ⟨g11, t, none⟩ = some (.int .u32 (rd kT (t : Int))) ∧ w'.cell? ⟨g5, t, none⟩ = some (.int .u32 (rd (w64 b 48) (t : Int)))) (ds := [9]) #[false, false, false, false, false, false, false, false, false, false] (by kernel_rfl) rfl rfl ⟨HX.out.b10, HK.out, HM.out⟩ (fun hHeld => ?_)
    refine with_tabW r99_18_tab r99_18_bits (fun HT_ HW_ => ?_)
    generalize World.drew wr = W1 at HD hHeld ⊢
    refine take_ (i := 0) (N := some 107) (v := ?_) (a' := ?_) #[true, false, false, false, false, false, false, false, false, false] rfl rfl (take_ofW HT_.out HW_.out (by kernel_rfl)) (fun _ _ _ h => h) (Or.inl ⟨by rfl, ?_⟩) hHeld ?_ ?_
    rotate_left
    · (rintro w' ⟨s0, s1, s2⟩; refine run_get_row (ty := 110) (p := 10) ?_ ?_ s0 Try.underlying110 rfl (info110.trans (by rw [size_u32s, HRL.out])); rfl; rfl)
    rotate_left
    · simp only [Act.put, List.setIfInBounds_toArray, List.set_cons_zero, List.set_cons_succ, i64_w, i32_w]
      rfl
    refine pure_ (i := 1) (N := some 108) (v := ?_) (a' := ?_) #[true, true, false, false, false, false, false, false, false, false] rfl rfl (any_of HT_.out (by kernel_rfl)) (fun _ _ _ h => h) (Or.inl ⟨by rfl, ?_⟩) ?_ ?_
    rotate_left
    · intro w'
      go_simp
      with_reducible rfl
    rotate_left
    · simp only [Act.put, List.setIfInBounds_toArray, List.set_cons_zero, List.set_cons_succ, i64_w, i32_w]
      rfl
    refine pure_ (i := 2) (N := some 109) (v := ?_) (a' := ?_) #[true, true, true, false, false, false, false, false, false, false] rfl rfl (any_of HT_.out (by kernel_rfl)) (fun _ _ _ h => h) (Or.inl ⟨by rfl, ?_⟩) ?_ ?_
    rotate_left
    · intro w'
      go_simp
      with_reducible rfl
    rotate_left
    · simp only [Act.put, List.setIfInBounds_toArray, List.set_cons_zero, List.set_cons_succ, i64_w, i32_w]
      rfl
    refine take_ (i := 3) (N := some 110) (v := ?_) (a' := ?_) #[true, true, true, true, false, false, false, false, false, false] rfl rfl (take_ofW HT_.out HW_.out (by kernel_rfl)) (fun _ _ _ h => h) (Or.inl ⟨by rfl, ?_⟩) hHeld ?_ ?_
    rotate_left
    · rintro w' ⟨s0, s1, s2⟩
      go_simp
      with_reducible rfl
    rotate_left
    · simp only [Act.put, List.setIfInBounds_toArray, List.set_cons_zero, List.set_cons_succ, i64_w, i32_w]
      rfl
    refine pure_ (i := 4) (N := some 111) (v := ?_) (a' := ?_) #[true, true, true, true, true, false, false, false, false, false] rfl rfl (any_of HT_.out (by kernel_rfl)) (fun _ _ _ h => h) (Or.inl ⟨by rfl, ?_⟩) ?_ ?_
    rotate_left
    · intro w'
      go_simp
      with_reducible rfl
    rotate_left
    · simp only [Act.put, List.setIfInBounds_toArray, List.set_cons_zero, List.set_cons_succ, i64_w, i32_w]
      rfl
    refine pure_ (i := 5) (N := some 112) (v := ?_) (a' := ?_) #[true, true, true, true, true, true, false, false, false, false] rfl rfl (any_of HT_.out (by kernel_rfl)) (fun _ _ _ h => h) (Or.inl ⟨by rfl, ?_⟩) ?_ ?_
    rotate_left
    · intro w'
      go_simp
      with_reducible rfl
    rotate_left
    · simp only [Act.put, List.setIfInBounds_toArray, List.set_cons_zero, List.set_cons_succ, i64_w, i32_w]
      rfl
    refine take_ (i := 6) (N := some 113) (v := ?_) (a' := ?_) #[true, true, true, true, true, true, true, false, false, false] rfl rfl (take_ofW HT_.out HW_.out (by kernel_rfl)) (fun _ _ _ h => h) (Or.inl ⟨by rfl, ?_⟩) hHeld ?_ ?_
    rotate_left
    · rintro w' ⟨s0, s1, s2⟩
      go_simp
      with_reducible rfl
    rotate_left
    · simp only [Act.put, List.setIfInBounds_toArray, List.set_cons_zero, List.set_cons_succ, i64_w, i32_w]
      rfl
    refine pure_ (i := 7) (N := some 114) (v := ?_) (a' := ?_) #[true, true, true, true, true, true, true, true, false, false] rfl rfl (any_of HT_.out (by kernel_rfl)) (fun _ _ _ h => h) (Or.inl ⟨by rfl, ?_⟩) ?_ ?_
    rotate_left
    · intro w'
      go_simp
      with_reducible rfl
    rotate_left
    · simp only [Act.put, List.setIfInBounds_toArray, List.set_cons_zero, List.set_cons_succ, i64_w, i32_w]
      rfl
    refine one_ (i := 8) (N := some 115) #[true, true, true, true, true, true, true, true, true, false] rfl rfl (one_of HT_.out (by kernel_rfl)) (by decide) (fun K hK => ?_)
    refine goes_ Try.func107 (by kernel_rfl) rfl #[.agg (u32s (rounds (w64 b 48) s t)), .int .u32 ((rd kT (t : Int) + rd (w64 b 48) (t : Int)) % 4294967296)] (by rfl) rfl rfl (by (try simp only [List.map_toArray, List.map_cons, List.map_nil]); first | done | rfl) ?_
    refine (roundL_calls _ HRL.out _ W1).mono ?_
    rintro e W2 ⟨rfl, hb2⟩
    refine ⟨_, rfl, ?_⟩
    have HD2 := Aside0.mk (HD.out.next hb2)
    refine hK.out _ _ ⟨HD2.out.b10, pw_cell_below hb2 hHeld.2.1, pw_cell_below hb2 hHeld.2.2⟩ (fun hHeld => ?_)
    clear hK K
    refine norm_ (a' := ?_) ?_ ?_
    rotate_left
    · show Act.put _ (some 115) _ = _
      simp only [Act.put, List.setIfInBounds_toArray, List.set_cons_zero, List.set_cons_succ, i64_w, i32_w]
      rfl
    clear hb2 HD
    refine last_ (i := 9) (N := none) #[true, true, true, true, true, true, true, true, true, true] rfl rfl (one_of HT_.out (by kernel_rfl)) (by decide) (fun K hK => ?_)
    refine skip_ (by rfl) rfl (run_put_row rfl (g := g10) (u32s (rndL (rounds (w64 b 48) s t) ((rd kT (t : Int) + rd (w64 b 48) (t : Int)) % 4294967296))) rfl rfl HD2.out.b10 info110 (by rw [size_u32s, HRL.out]; rfl) (all_one _ _)) ?_
    refine hK.out _ _ ?_
    clear hK K
    refine done_ (done_of HT_.out (by kernel_rfl)) ?_
    have HD : Aside0 (CH w (W2.setRow g10 (u32s (rndL (rounds (w64 b 48) s t) ((rd kT (t : Int) + rd (w64 b 48) (t : Int)) % 4294967296)))) g2 g4 g5 g10 g11 s (w64 b 48) (rounds (w64 b 48) s (t + 1))) := ⟨HD2.out.wrote (setRow_heap W2 g10 _ _ 110 (0, 0) HD2.out.b10) ⟨_, rfl⟩⟩
    clear HD2 HX hHeld HK HM
    go_wp2_with fail
    go_roundw
    case rel => exact ⟨t + 1, by omega, by go_num, HD⟩
    case measure => simp [intOf]; omega
  obtain rfl : t = 64 := by omega
  clear hlt ht
  go_wp2_with fail
  generalize wr = wb at *
  have H0 : Aside0 (CH w wb g2 g4 g5 g10 g11 s (w64 b 48) (sums (rounds (w64 b 48) s 64) s 0)) := HX
  clear HX
  go_loopw [117] (fun v117 wi => ∃ (t : Nat), t ≤ 8 ∧ v117 = .int .i64 t ∧ Aside0 (CH w wi g2 g4 g5 g10 g11 s (w64 b 48) (sums (rounds (w64 b 48) s 64) s t))) (fun v117 _ => 8 - (intOf v117).toNat)
  case atStart => exact ⟨0, by omega, rfl, H0⟩
  case round =>
  clear H0
  obtain ⟨t, ht, rfl, HX⟩ := hrel
  have HRL : Aside0 ((sums (rounds (w64 b 48) s 64) s t).length = 8) := ⟨by rw [sums_length]; exact rounds_length _ _ HS.out 64⟩
  by_cases hlt : t < 8
  · go_wp2_with fail
    have r0 : ((t : Int) < 8) = True := by simp; omega
    have HD := Aside0.mk HX.out.drew
    have HK := Aside0.mk ((blk_cell HX.out.b10 t).trans (u32s_at (sums (rounds (w64 b 48) s 64) s t) t (by rw [HRL.out]; exact hlt)))
    have HM := Aside0.mk ((blk_cell HX.out.b2 t).trans (u32s_at s t (by rw [HS.out]; exact hlt)))
    refine start_ (n := 9) (S := fun w' => w'.cell? ⟨g10, t, none⟩ = some (.int .u32 (rd (sums (rounds (w64 b 48) s 64) s t) (t : Int))) ∧ w'.cell? ⟨g2, t, none⟩ = some (.int .u32 (rd s (t : Int)))) (ds := [8]) #[false, false, false, false, false, false, false, false, false] (by kernel_rfl) rfl rfl ⟨HK.out, HM.out⟩ (fun hHeld => ?_)
    refine with_tabW r99_23_tab r99_23_bits (fun HT_ HW_ => ?_)
    generalize World.drew wr = W1 at HD hHeld ⊢
    refine pure_ (i := 0) (N := some 120) (v := ?_) (a' := ?_) #[true, false, false, false, false, false, false, false, false] rfl rfl (any_of HT_.out (by kernel_rfl)) (fun _ _ _ h => h) (Or.inl ⟨by rfl, ?_⟩) ?_ ?_
    rotate_left
    · intro w'
      go_simp
      with_reducible rfl
    rotate_left
    · simp only [Act.put, List.setIfInBounds_toArray, List.set_cons_zero, List.set_cons_succ, i64_w, i32_w]
      rfl
    refine pure_ (i := 1) (N := some 121) (v := ?_) (a' := ?_) #[true, true, false, false, false, false, false, false, false] rfl rfl (any_of HT_.out (by kernel_rfl)) (fun _ _ _ h => h) (Or.inl ⟨by rfl, ?_⟩) ?_ ?_
    rotate_left
    · intro w'
      go_simp
      with_reducible rfl
    rotate_left
    · simp only [Act.put, List.setIfInBounds_toArray, List.set_cons_zero, List.set_cons_succ, i64_w, i32_w]
      rfl
    refine take_ (i := 2) (N := some 122) (v := ?_) (a' := ?_) #[true, true, true, false, false, false, false, false, false] rfl rfl (take_ofW HT_.out HW_.out (by kernel_rfl)) (fun _ _ _ h => h) (Or.inl ⟨by rfl, ?_⟩) hHeld ?_ ?_
    rotate_left
    · rintro w' ⟨s0, s1⟩
      go_simp
      with_reducible rfl
    rotate_left
    · simp only [Act.put, List.setIfInBounds_toArray, List.set_cons_zero, List.set_cons_succ, i64_w, i32_w]
      rfl
    refine pure_ (i := 3) (N := some 123) (v := ?_) (a' := ?_) #[true, true, true, true, false, false, false, false, false] rfl rfl (any_of HT_.out (by kernel_rfl)) (fun _ _ _ h => h) (Or.inl ⟨by rfl, ?_⟩) ?_ ?_
    rotate_left
    · intro w'
      go_simp
      with_reducible rfl
    rotate_left
    · simp only [Act.put, List.setIfInBounds_toArray, List.set_cons_zero, List.set_cons_succ, i64_w, i32_w]
      rfl
    refine pure_ (i := 4) (N := some 124) (v := ?_) (a' := ?_) #[true, true, true, true, true, false, false, false, false] rfl rfl (any_of HT_.out (by kernel_rfl)) (fun _ _ _ h => h) (Or.inl ⟨by rfl, ?_⟩) ?_ ?_
    rotate_left
    · intro w'
      go_simp
      with_reducible rfl
    rotate_left
    · simp only [Act.put, List.setIfInBounds_toArray, List.set_cons_zero, List.set_cons_succ, i64_w, i32_w]
      rfl
    refine take_ (i := 5) (N := some 125) (v := ?_) (a' := ?_) #[true, true, true, true, true, true, false, false, false] rfl rfl (take_ofW HT_.out HW_.out (by kernel_rfl)) (fun _ _ _ h => h) (Or.inl ⟨by rfl, ?_⟩) hHeld ?_ ?_
    rotate_left
    · rintro w' ⟨s0, s1⟩
      go_simp
      with_reducible rfl
    rotate_left
    · simp only [Act.put, List.setIfInBounds_toArray, List.set_cons_zero, List.set_cons_succ, i64_w, i32_w]
      rfl
    refine pure_ (i := 6) (N := some 126) (v := ?_) (a' := ?_) #[true, true, true, true, true, true, true, false, false] rfl rfl (any_of HT_.out (by kernel_rfl)) (fun _ _ _ h => h) (Or.inl ⟨by rfl, ?_⟩) ?_ ?_
    rotate_left
    · intro w'
      go_simp
      with_reducible rfl
    rotate_left
    · simp only [Act.put, List.setIfInBounds_toArray, List.set_cons_zero, List.set_cons_succ, i64_w, i32_w]
      rfl
    refine pure_ (i := 7) (N := some 127) (v := ?_) (a' := ?_) #[true, true, true, true, true, true, true, true, false] rfl rfl (any_of HT_.out (by kernel_rfl)) (fun _ _ _ h => h) (Or.inl ⟨by rfl, ?_⟩) ?_ ?_
    rotate_left
    · intro w'
      go_simp
      with_reducible rfl
    rotate_left
    · simp only [Act.put, List.setIfInBounds_toArray, List.set_cons_zero, List.set_cons_succ, i64_w, i32_w]
      rfl
    refine last_ (i := 8) (N := none) #[true, true, true, true, true, true, true, true, true] rfl rfl (one_of HT_.out (by kernel_rfl)) (by decide) (fun K hK => ?_)
    have e5 := (blk_cell HD.out.b10 t).trans (u32s_at (sums (rounds (w64 b 48) s 64) s t) t (by rw [HRL.out]; exact hlt))
    have f5 := blk_frozen HD.out.b10 t
    refine skip_ (w1 := ?_) (by rfl) rfl ?_ ?_
    rotate_left
    · go_simp
      rfl
    refine hK.out _ _ ?_
    clear hK K
    refine done_ (done_of HT_.out (by kernel_rfl)) ?_
    replace HD := Aside0.mk (HD.out.put t ((rd (sums (rounds (w64 b 48) s 64) s t) (t : Int) + rd s (t : Int)) % 4294967296))
    clear e5 f5 HX hHeld HK HM
    go_wp2_with fail
    go_roundw
    case rel => exact ⟨t + 1, by omega, by go_num, HD⟩
    case measure => simp [intOf]; omega
  obtain rfl : t = 8 := by omega
  clear hlt ht
  go_wp2_with (first
    | ((with_reducible refine gate_dst (N := 129) rfl ?_); refine get_row rfl rfl rfl HX.out.b10 Try.underlying110 rfl (info110.trans (by rw [size_u32s, HRL.out])) rfl ?_)
    | ((with_reducible refine gate_store (t := 110) (p := 4) rfl ?_); refine put_row rfl rfl rfl (g := g4) (u32s (sums (rounds (w64 b 48) s 64) s 8)) rfl rfl HX.out.b4 (info110.trans (by rw [size_u32s, HRL.out])) (by rw [size_u32s, size_u32s, HRL.out]; rfl) (all_one _ _) ?_; intro w20 h1 h2; have HR := Aside0.mk h1; have HWr := Aside0.mk h2; clear h1 h2))
  refine bodyPost_ret (results_cell_row rfl _ _ g4 110 _ (0, 0) _ rfl HR.out Try.underlying110 rfl (info110.trans (by rw [size_u32s, HRL.out]))) rfl ?_
  exact ⟨rfl, HWr.out.below HX.out.below HX.out.l4⟩
end Go.Proofs.Ytcgajjaaiablkaa.ShaBehind
