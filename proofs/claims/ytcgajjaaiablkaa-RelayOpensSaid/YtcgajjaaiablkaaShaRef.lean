/- The reference's SHA-256: the 64 words of a block. -/
import Derived.Test.YtcgajjaaiablkaaShaSum
import Derived.Test.YtcgajjaaiablkaaPRelaySealedx2
namespace Go.Proofs.Ytcgajjaaiablkaa.ShaRef
open Go.RowKit Go.Proofs.YtcgajjaaiablkaaW.PrintWords Go.Proofs.YtcgajjaaiablkaaW.PrintLast Go.Proofs.YtcgajjaaiablkaaW.PrintMore
open Go.Proofs.Ytcgajjaaiablkaa.PRelaySealed Go.Proofs.Ytcgajjaaiablkaa.ShaP Go.Proofs.Ytcgajjaaiablkaa.ShaM Go.Proofs.Ytcgajjaaiablkaa.ShaRound
set_option linter.unusedVariables false
set_option linter.unusedSimpArgs false

theorem rrotr_calls (x n : Int) (w : World) (h0 : 0 ≤ n) (h1 : n ≤ 32) : Calls Try.prog 92 #[.int .u32 x, .int .u64 n] w fun e w' => e = .returned (.int .u32 (ro x n)) ∧ Below w.heap.size w w' := by
  have hw : IntKind.u64.wrap (32 - n) = 32 - n := by simp [IntKind.wrap, IntKind.bits, IntKind.signed]; omega
  refine (portageref02_rotr.calls x n (ro x n) w ?_).mono (fun e w' hh => ⟨hh.1, hh.2.below⟩)
  unfold portageref02_rotr.f ro
  rw [if_pos h0, hw, if_pos (by omega)]
theorem info97 : (Try.prog.info? 97).map (·.size) = some 8 := by kernel_rfl
set_option maxHeartbeats 8000000 in
set_option maxRecDepth 100000 in
theorem rfirst_calls (w : World) : Calls Try.prog 65 #[] w fun en w' => en = .returned (.agg (u32s iv)) ∧ Below w.heap.size w w' := by
  go_enter Try.func65, Try.ntmps65
  go_wp2_with (first
    | ((with_reducible refine gate_dst (N := 0) rfl ?_); refine box_event_ 97 (u32s (List.replicate 8 0)) rfl rfl (by first | (go_simp; done) | (go_simp; rfl)) ?_; intro g4 w4 hg4 hA4 hb4; have HA4 := Aside0.mk hA4; have HB4 := Aside0.mk hb4; have HG4 := Aside0.mk hg4; clear hg4 hA4 hb4)
    | ((with_reducible refine gate_store (t := 97) (p := 0) rfl ?_); refine put_row rfl rfl rfl (g := g4) (u32s iv) rfl rfl HA4.out info97 rfl (all_one _ _) ?_; intro W1 h1 h2; have HR := Aside0.mk h1; have HW := Aside0.mk h2; clear h1 h2))
  refine bodyPost_ret (results_cell_row rfl _ _ g4 97 _ (0, 0) _ rfl HR.out Try.underlying97 rfl info97) rfl ?_
  exact ⟨rfl, HW.out.below HB4.out HG4.out⟩
set_option maxHeartbeats 8000000 in
set_option maxRecDepth 100000 in
theorem rtable_calls (w : World) : Calls Try.prog 91 #[] w fun en w' => en = .returned (.agg (u32s kT)) ∧ Below w.heap.size w w' := by
  go_enter Try.func91, Try.ntmps91
  go_wp2_with (first
    | ((with_reducible refine gate_dst (N := 0) rfl ?_); refine box_event_ 124 (u32s (List.replicate 64 0)) rfl rfl (by first | (go_simp; done) | (go_simp; rfl)) ?_; intro g4 w4 hg4 hA4 hb4; have HA4 := Aside0.mk hA4; have HB4 := Aside0.mk hb4; have HG4 := Aside0.mk hg4; clear hg4 hA4 hb4)
    | ((with_reducible refine gate_store (t := 124) (p := 0) rfl ?_); refine put_row rfl rfl rfl (g := g4) (u32s kT) rfl rfl HA4.out info124 rfl (all_one _ _) ?_; intro W1 h1 h2; have HR := Aside0.mk h1; have HW := Aside0.mk h2; clear h1 h2))
  refine bodyPost_ret (results_cell_row rfl _ _ g4 124 _ (0, 0) _ rfl HR.out Try.underlying124 rfl info124) rfl ?_
  exact ⟨rfl, HW.out.below HB4.out HG4.out⟩
/-- Where words stands. -/
structure WH (w0 W : World) (g4 g5 : Nat) (ws : List Int) : Prop where
  below : Below w0.heap.size w0 W
  b4 : W.heap[g4]? = some (.cells (u32s (List.replicate 64 0)) 124 (0, 0))
  b5 : W.heap[g5]? = some (.cells (u32s ws) 124 (0, 0))
  l4 : w0.heap.size ≤ g4
  l5 : w0.heap.size ≤ g5
  n45 : g4 ≠ g5
theorem WH.next {w0 W W1 : World} {g4 g5 : Nat} {ws : List Int} (h : WH w0 W g4 g5 ws) (hb : Below W.heap.size W W1) : WH w0 W1 g4 g5 ws :=
  ⟨below_step h.below hb, (hb.block g4 (blk_lt h.b4)).trans h.b4, (hb.block g5 (blk_lt h.b5)).trans h.b5, h.l4, h.l5, h.n45⟩
theorem WH.drew {w0 W : World} {g4 g5 : Nat} {ws : List Int} (h : WH w0 W g4 g5 ws) : WH w0 W.drew g4 g5 ws := h.next (below_drew1 (Below.refl _ W))
theorem WH.put {w0 W : World} {g4 g5 : Nat} {ws : List Int} (h : WH w0 W g4 g5 ws) (j : Nat) (x : Int) : WH w0 (W.setCell ⟨g5, j, none⟩ (.int .u32 x)) g4 g5 (ws.set j x) :=
  ⟨below_set h.below h.l5, blk_far h.b4 h.n45 _, by rw [← u32s_set]; exact blk_set h.b5 j (.int .u32 x), h.l4, h.l5, h.n45⟩
theorem WH.at5 {w0 W : World} {g4 g5 : Nat} {ws : List Int} (h : WH w0 W g4 g5 ws) (j : Nat) (hj : j < ws.length) : W.cell? ⟨g5, j, none⟩ = some (.int .u32 (rd ws (j : Int))) := (blk_cell h.b5 j).trans (u32s_at ws j hj)
theorem rd_sub (p : List Int) (i j : Nat) (hj : j < 64) (h : i + 64 ≤ p.length) : rd ((p.drop i).take 64) (j : Int) = rd p ((i + j : Nat) : Int) := by
  simp only [rd, Int.toNat_natCast, List.getD_eq_getElem?_getD]
  rw [List.getElem?_take, if_pos hj, List.getElem?_drop]
theorem add_succ (ad : Addr) (n : Nat) : ad.add (n + 1) = ⟨ad.block, ad.off + (n + 1), none⟩ := by unfold Addr.add; split <;> simp_all
/-- A block's byte, in the whole. -/
theorem byte_at {w W : World} {p : List Int} {A : Option Addr} (hC : Kd.C (Kd.int .u8) w A p.length p) (hb : Below w.heap.size w W) (i j : Nat) (hj : j < 64) (h : i + 64 ≤ p.length) : ∃ ad, A = some ad ∧ W.cell? (ad.add (i + j)) = some (.int .u8 (rd ((p.drop i).take 64) (j : Int))) := by
  obtain ⟨ad, e, hx⟩ := Kd.at_int hC ((i + j : Nat) : Int) (by omega) (by omega)
  refine ⟨ad, e, ?_⟩
  rw [rd_sub p i j hj h]
  have hx2 := pw_cell_below hb hx
  rwa [Int.toNat_natCast] at hx2

def r90_6_T : Bool × List (List Nat × List Nat) := (true, [([], []), ([], []), ([], []), ([1, 2], [1, 2]), ([3], [3]), ([4], [4]), ([5], [5]), ([], []), ([], []), ([8], [8]), ([7, 9], [7, 9]), ([10], [10]), ([11], [11]), ([12], [12]), ([6, 13], [6, 13]), ([], []), ([], []), ([16], [16]), ([15, 17], [15, 17]), ([18], [18]), ([19], [19]), ([20], [20]), ([14, 21], [14, 21]), ([], []), ([], []), ([24], [24]), ([23, 25], [23, 25]), ([26], [26]), ([27], [27]), ([22, 28], [22, 28]), ([0, 0, 1, 2, 3, 4, 5, 6, 7, 8, 9, 10, 11, 12, 13, 14, 15, 16, 17, 18, 19, 20, 21, 22, 23, 24, 25, 26, 27, 28, 29], [0]), ([30, 29, 0, 1, 2, 3, 4, 5, 6, 7, 8, 9, 10, 11, 12, 13, 14, 15, 16, 17, 18, 19, 20, 21, 22, 23, 24, 25, 26, 27, 28, 29], [29, 30])])
def r90_6_B : List Nat := [0, 0, 0, 6, 14, 30, 62, 0, 0, 256, 896, 1920, 3968, 8064, 16382, 0, 0, 65536, 229376, 491520, 1015808, 2064384, 4194302, 0, 0, 16777216, 58720256, 125829120, 260046848, 536870910, 1073741823, 2147483647]
theorem r90_6_tab : rtab .any (opsOf Try.f90 6) = r90_6_T := by kernel_rfl
theorem r90_6_bits : waitsOk r90_6_T.2 r90_6_B = true := by kernel_rfl
def r90_14_T : Bool × List (List Nat × List Nat) := (true, [([], []), ([], []), ([], []), ([2], [2]), ([3], [3]), ([4], [4]), ([1, 5], [1, 5]), ([], []), ([6, 7], [6, 7]), ([], []), ([9], [9]), ([10], [10]), ([11], [11]), ([8, 12], [8, 12]), ([0, 0, 1, 2, 3, 4, 5, 6, 7, 8, 9, 10, 11, 12, 13], [0]), ([14, 13, 0, 1, 2, 3, 4, 5, 6, 7, 8, 9, 10, 11, 12, 13], [13, 14])])
def r90_14_B : List Nat := [0, 0, 0, 4, 12, 28, 62, 0, 254, 0, 512, 1536, 3584, 8190, 16383, 32767]
theorem r90_14_tab : rtab .any (opsOf Try.f90 14) = r90_14_T := by kernel_rfl
theorem r90_14_bits : waitsOk r90_14_T.2 r90_14_B = true := by kernel_rfl
set_option maxHeartbeats 8000000 in
set_option maxRecDepth 100000 in
theorem words_calls (p : List Int) (A : Option Addr) (c i : Nat) (w : World) (hC : Kd.C (Kd.int .u8) w A p.length p) (hi : i + 64 ≤ p.length) (hl : p.length ≤ 281474976710656) :
    Calls Try.prog 90 #[.slice A p.length c, .int .i64 i] w fun e w' => e = .returned (.agg (u32s (w64 ((p.drop i).take 64) 48))) ∧ Below w.heap.size w w' := by
  have HC := Aside0.mk hC
  clear hC
  go_enter Try.func90, Try.ntmps90
  go_upto_region 2 with (first
    | ((with_reducible refine gate_dst (N := 4) rfl ?_); refine box_event_ 124 (u32s (List.replicate 64 0)) rfl rfl (by first | (go_simp; done) | (go_simp; rfl)) ?_; intro g4 w4 hg4 hA4 hb4; have HA4 := Aside0.mk hA4; have HB4 := Aside0.mk hb4; have HG4 := Aside0.mk hg4; clear hg4 hA4 hb4)
    | ((with_reducible refine gate_dst (N := 5) rfl ?_); refine box_event_ 124 (u32s (List.replicate 64 0)) rfl rfl (by first | (go_simp; done) | (go_simp; rfl)) ?_; intro g5 w5 hg5 hA5 hb5; have HA5 := Aside0.mk hA5; have HB5 := Aside0.mk hb5; have HG5 := Aside0.mk hg5; clear hg5 hA5 hb5))
  have H0 : Aside0 (WH w w5 g4 g5 (w16 ((p.drop i).take 64) 0)) := ⟨by
    have l4 := blk_lt HA4.out
    have e4 := HB4.out.size
    have h4 := HG4.out
    have h5 := HG5.out
    exact ⟨below_step HB4.out HB5.out, (HB5.out.block g4 l4).trans HA4.out, HA5.out, h4, by omega, by omega⟩⟩
  clear HA4 HA5 HB4 HB5 HG4 HG5
  generalize hbb : (p.drop i).take 64 = b at H0
  have HBB := Aside0.mk hbb
  clear hbb
  go_wp2_with fail
  go_loopw [6] (fun v6 wi => ∃ (t : Nat), t ≤ 16 ∧ v6 = .int .i64 t ∧ Aside0 (WH w wi g4 g5 (w16 b t))) (fun v6 _ => 16 - (intOf v6).toNat)
  case atStart => exact ⟨0, by omega, rfl, H0⟩
  case round =>
  clear H0
  obtain ⟨t, ht, rfl, HX⟩ := hrel
  by_cases hlt : t < 16
  · have q0 : wrap64 (4 * (t : Int)) = 4 * (t : Int) := by unfold wrap64; omega
    have q1 : wrap64 ((i : Int) + 4 * (t : Int)) = (i : Int) + 4 * (t : Int) := by unfold wrap64; omega
    go_upto_region 6 with fail
    obtain ⟨P, hP⟩ : ∃ P : Nat, P = i + 4 * t := ⟨_, rfl⟩
    rw [show (i : Int) + 4 * (t : Int) = (P : Int) by omega]
    obtain ⟨ad, hA, c0⟩ := byte_at HC.out HX.out.below i (4 * t) (by omega) hi
    subst hA
    obtain ⟨_, e1, c1⟩ := byte_at HC.out HX.out.below i (4 * t + 1) (by omega) hi
    cases e1
    obtain ⟨_, e2, c2⟩ := byte_at HC.out HX.out.below i (4 * t + 2) (by omega) hi
    cases e2
    obtain ⟨_, e3, c3⟩ := byte_at HC.out HX.out.below i (4 * t + 3) (by omega) hi
    cases e3
    rw [HBB.out] at c0 c1 c2 c3
    rw [show i + 4 * t = P by omega] at c0
    rw [show i + (4 * t + 1) = P + 1 by omega] at c1
    rw [show i + (4 * t + 2) = P + 2 by omega] at c2
    rw [show i + (4 * t + 3) = P + 3 by omega] at c3
    rw [add_succ] at c1
    rw [show P + 2 = ((P : Int) + 2).toNat by omega] at c2
    rw [show P + 3 = ((P : Int) + 3).toNat by omega] at c3
    have C0 := Aside0.mk c0
    have C1 := Aside0.mk c1
    have C2 := Aside0.mk c2
    have C3 := Aside0.mk c3
    clear c0 c1 c2 c3
    have r0 : ((P : Int) < (p.length : Int)) = True := by simp; omega
    have m1 : (0 ≤ (P : Int) + 1) = True := by simp; omega
    have m2 : (0 ≤ (P : Int) + 2) = True := by simp; omega
    have m3 : (0 ≤ (P : Int) + 3) = True := by simp; omega
    have r1 : ((P : Int) + 1 < (p.length : Int)) = True := by simp; omega
    have r2 : ((P : Int) + 2 < (p.length : Int)) = True := by simp; omega
    have r3 : ((P : Int) + 3 < (p.length : Int)) = True := by simp; omega
    have w1 : wrap64 ((P : Int) + 1) = (P : Int) + 1 := by unfold wrap64; omega
    have w2 : wrap64 ((P : Int) + 2) = (P : Int) + 2 := by unfold wrap64; omega
    have w3 : wrap64 ((P : Int) + 3) = (P : Int) + 3 := by unfold wrap64; omega
    have r4 : ((t : Int) < 64) = True := by simp; omega
    have HD := Aside0.mk HX.out.drew
    clear q0 q1 hP
    refine start_ (n := 32) (S := fun w' => w'.cell? (ad.add P) = some (.int .u8 (rd b ((4 * t : Nat) : Int))) ∧ w'.cell? ⟨ad.block, ad.off + (P + 1), none⟩ = some (.int .u8 (rd b ((4 * t + 1 : Nat) : Int))) ∧ w'.cell? (ad.add ((P : Int) + 2).toNat) = some (.int .u8 (rd b ((4 * t + 2 : Nat) : Int))) ∧ w'.cell? (ad.add ((P : Int) + 3).toNat) = some (.int .u8 (rd b ((4 * t + 3 : Nat) : Int)))) (ds := [31]) #[false, false, false, false, false, false, false, false, false, false, false, false, false, false, false, false, false, false, false, false, false, false, false, false, false, false, false, false, false, false, false, false] (by kernel_rfl) rfl rfl ⟨C0.out, C1.out, C2.out, C3.out⟩ (fun hHeld => ?_)
    refine with_tabW r90_6_tab r90_6_bits (fun HT_ HW_ => ?_)
    generalize World.drew wr = W1 at HD hHeld ⊢
    refine pure_ (i := 0) (N := some 21) (v := ?_) (a' := ?_) #[true, false, false, false, false, false, false, false, false, false, false, false, false, false, false, false, false, false, false, false, false, false, false, false, false, false, false, false, false, false, false, false] rfl rfl (any_of HT_.out (by kernel_rfl)) (fun _ _ _ h => h) (Or.inl ⟨by rfl, ?_⟩) ?_ ?_
    rotate_left
    · intro w'
      go_simp
      with_reducible rfl
    rotate_left
    · simp only [Act.put, List.setIfInBounds_toArray, List.set_cons_zero, List.set_cons_succ, i64_w, i32_w]
      rfl
    refine pure_ (i := 1) (N := some 22) (v := ?_) (a' := ?_) #[true, true, false, false, false, false, false, false, false, false, false, false, false, false, false, false, false, false, false, false, false, false, false, false, false, false, false, false, false, false, false, false] rfl rfl (any_of HT_.out (by kernel_rfl)) (fun _ _ _ h => h) (Or.inl ⟨by rfl, ?_⟩) ?_ ?_
    rotate_left
    · intro w'
      go_simp
      with_reducible rfl
    rotate_left
    · simp only [Act.put, List.setIfInBounds_toArray, List.set_cons_zero, List.set_cons_succ, i64_w, i32_w]
      rfl
    refine pure_ (i := 2) (N := some 23) (v := ?_) (a' := ?_) #[true, true, true, false, false, false, false, false, false, false, false, false, false, false, false, false, false, false, false, false, false, false, false, false, false, false, false, false, false, false, false, false] rfl rfl (any_of HT_.out (by kernel_rfl)) (fun _ _ _ h => h) (Or.inl ⟨by rfl, ?_⟩) ?_ ?_
    rotate_left
    · intro w'
      go_simp
      with_reducible rfl
    rotate_left
    · simp only [Act.put, List.setIfInBounds_toArray, List.set_cons_zero, List.set_cons_succ, i64_w, i32_w]
      rfl
    refine pure_ (i := 3) (N := some 24) (v := ?_) (a' := ?_) #[true, true, true, true, false, false, false, false, false, false, false, false, false, false, false, false, false, false, false, false, false, false, false, false, false, false, false, false, false, false, false, false] rfl rfl (any_of HT_.out (by kernel_rfl)) (fun _ _ _ h => h) (Or.inl ⟨by rfl, ?_⟩) ?_ ?_
    rotate_left
    · intro w'
      go_simp
      with_reducible rfl
    rotate_left
    · simp only [Act.put, List.setIfInBounds_toArray, List.set_cons_zero, List.set_cons_succ, i64_w, i32_w]
      rfl
    refine take_ (i := 4) (N := some 25) (v := ?_) (a' := ?_) #[true, true, true, true, true, false, false, false, false, false, false, false, false, false, false, false, false, false, false, false, false, false, false, false, false, false, false, false, false, false, false, false] rfl rfl (take_ofW HT_.out HW_.out (by kernel_rfl)) (fun _ _ _ h => h) (Or.inl ⟨by rfl, ?_⟩) hHeld ?_ ?_
    rotate_left
    · rintro w' ⟨s0, s1, s2, s3⟩
      go_simp
      with_reducible rfl
    rotate_left
    · simp only [Act.put, List.setIfInBounds_toArray, List.set_cons_zero, List.set_cons_succ, i64_w, i32_w]
      rfl
    refine pure_ (i := 5) (N := some 26) (v := ?_) (a' := ?_) #[true, true, true, true, true, true, false, false, false, false, false, false, false, false, false, false, false, false, false, false, false, false, false, false, false, false, false, false, false, false, false, false] rfl rfl (any_of HT_.out (by kernel_rfl)) (fun _ _ _ h => h) (Or.inl ⟨by rfl, ?_⟩) ?_ ?_
    rotate_left
    · intro w'
      go_simp
      with_reducible rfl
    rotate_left
    · simp only [Act.put, List.setIfInBounds_toArray, List.set_cons_zero, List.set_cons_succ, i64_w, i32_w]
      rfl
    refine pure_ (i := 6) (N := some 27) (v := ?_) (a' := ?_) #[true, true, true, true, true, true, true, false, false, false, false, false, false, false, false, false, false, false, false, false, false, false, false, false, false, false, false, false, false, false, false, false] rfl rfl (any_of HT_.out (by kernel_rfl)) (fun _ _ _ h => h) (Or.inl ⟨by rfl, ?_⟩) ?_ ?_
    rotate_left
    · intro w'
      go_simp
      with_reducible rfl
    rotate_left
    · simp only [Act.put, List.setIfInBounds_toArray, List.set_cons_zero, List.set_cons_succ, i64_w, i32_w]
      rfl
    refine pure_ (i := 7) (N := some 28) (v := ?_) (a' := ?_) #[true, true, true, true, true, true, true, true, false, false, false, false, false, false, false, false, false, false, false, false, false, false, false, false, false, false, false, false, false, false, false, false] rfl rfl (any_of HT_.out (by kernel_rfl)) (fun _ _ _ h => h) (Or.inl ⟨by rfl, ?_⟩) ?_ ?_
    rotate_left
    · intro w'
      go_simp
      with_reducible rfl
    rotate_left
    · simp only [Act.put, List.setIfInBounds_toArray, List.set_cons_zero, List.set_cons_succ, i64_w, i32_w]
      rfl
    refine pure_ (i := 8) (N := some 29) (v := ?_) (a' := ?_) #[true, true, true, true, true, true, true, true, true, false, false, false, false, false, false, false, false, false, false, false, false, false, false, false, false, false, false, false, false, false, false, false] rfl rfl (any_of HT_.out (by kernel_rfl)) (fun _ _ _ h => h) (Or.inl ⟨by rfl, ?_⟩) ?_ ?_
    rotate_left
    · intro w'
      go_simp
      with_reducible rfl
    rotate_left
    · simp only [Act.put, List.setIfInBounds_toArray, List.set_cons_zero, List.set_cons_succ, i64_w, i32_w]
      rfl
    refine pure_ (i := 9) (N := some 30) (v := ?_) (a' := ?_) #[true, true, true, true, true, true, true, true, true, true, false, false, false, false, false, false, false, false, false, false, false, false, false, false, false, false, false, false, false, false, false, false] rfl rfl (any_of HT_.out (by kernel_rfl)) (fun _ _ _ h => h) (Or.inl ⟨by rfl, ?_⟩) ?_ ?_
    rotate_left
    · intro w'
      go_simp
      with_reducible rfl
    rotate_left
    · simp only [Act.put, List.setIfInBounds_toArray, List.set_cons_zero, List.set_cons_succ, i64_w, i32_w]
      rfl
    refine pure_ (i := 10) (N := some 31) (v := ?_) (a' := ?_) #[true, true, true, true, true, true, true, true, true, true, true, false, false, false, false, false, false, false, false, false, false, false, false, false, false, false, false, false, false, false, false, false] rfl rfl (any_of HT_.out (by kernel_rfl)) (fun _ _ _ h => h) (Or.inl ⟨by rfl, ?_⟩) ?_ ?_
    rotate_left
    · intro w'
      go_simp
      with_reducible rfl
    rotate_left
    · simp only [Act.put, List.setIfInBounds_toArray, List.set_cons_zero, List.set_cons_succ, i64_w, i32_w]
      rfl
    refine take_ (i := 11) (N := some 32) (v := ?_) (a' := ?_) #[true, true, true, true, true, true, true, true, true, true, true, true, false, false, false, false, false, false, false, false, false, false, false, false, false, false, false, false, false, false, false, false] rfl rfl (take_ofW HT_.out HW_.out (by kernel_rfl)) (fun _ _ _ h => h) (Or.inl ⟨by rfl, ?_⟩) hHeld ?_ ?_
    rotate_left
    · rintro w' ⟨s0, s1, s2, s3⟩
      go_simp
      with_reducible rfl
    rotate_left
    · simp only [Act.put, List.setIfInBounds_toArray, List.set_cons_zero, List.set_cons_succ, i64_w, i32_w]
      rfl
    refine pure_ (i := 12) (N := some 33) (v := ?_) (a' := ?_) #[true, true, true, true, true, true, true, true, true, true, true, true, true, false, false, false, false, false, false, false, false, false, false, false, false, false, false, false, false, false, false, false] rfl rfl (any_of HT_.out (by kernel_rfl)) (fun _ _ _ h => h) (Or.inl ⟨by rfl, ?_⟩) ?_ ?_
    rotate_left
    · intro w'
      go_simp
      with_reducible rfl
    rotate_left
    · simp only [Act.put, List.setIfInBounds_toArray, List.set_cons_zero, List.set_cons_succ, i64_w, i32_w]
      rfl
    refine pure_ (i := 13) (N := some 34) (v := ?_) (a' := ?_) #[true, true, true, true, true, true, true, true, true, true, true, true, true, true, false, false, false, false, false, false, false, false, false, false, false, false, false, false, false, false, false, false] rfl rfl (any_of HT_.out (by kernel_rfl)) (fun _ _ _ h => h) (Or.inl ⟨by rfl, ?_⟩) ?_ ?_
    rotate_left
    · intro w'
      go_simp
      with_reducible rfl
    rotate_left
    · simp only [Act.put, List.setIfInBounds_toArray, List.set_cons_zero, List.set_cons_succ, i64_w, i32_w]
      rfl
    refine pure_ (i := 14) (N := some 35) (v := ?_) (a' := ?_) #[true, true, true, true, true, true, true, true, true, true, true, true, true, true, true, false, false, false, false, false, false, false, false, false, false, false, false, false, false, false, false, false] rfl rfl (any_of HT_.out (by kernel_rfl)) (fun _ _ _ h => h) (Or.inl ⟨by rfl, ?_⟩) ?_ ?_
    rotate_left
    · intro w'
      go_simp
      with_reducible rfl
    rotate_left
    · simp only [Act.put, List.setIfInBounds_toArray, List.set_cons_zero, List.set_cons_succ, i64_w, i32_w]
      rfl
    refine pure_ (i := 15) (N := some 36) (v := ?_) (a' := ?_) #[true, true, true, true, true, true, true, true, true, true, true, true, true, true, true, true, false, false, false, false, false, false, false, false, false, false, false, false, false, false, false, false] rfl rfl (any_of HT_.out (by kernel_rfl)) (fun _ _ _ h => h) (Or.inl ⟨by rfl, ?_⟩) ?_ ?_
    rotate_left
    · intro w'
      go_simp
      with_reducible rfl
    rotate_left
    · simp only [Act.put, List.setIfInBounds_toArray, List.set_cons_zero, List.set_cons_succ, i64_w, i32_w]
      rfl
    refine pure_ (i := 16) (N := some 37) (v := ?_) (a' := ?_) #[true, true, true, true, true, true, true, true, true, true, true, true, true, true, true, true, true, false, false, false, false, false, false, false, false, false, false, false, false, false, false, false] rfl rfl (any_of HT_.out (by kernel_rfl)) (fun _ _ _ h => h) (Or.inl ⟨by rfl, ?_⟩) ?_ ?_
    rotate_left
    · intro w'
      go_simp
      with_reducible rfl
    rotate_left
    · simp only [Act.put, List.setIfInBounds_toArray, List.set_cons_zero, List.set_cons_succ, i64_w, i32_w]
      rfl
    refine pure_ (i := 17) (N := some 38) (v := ?_) (a' := ?_) #[true, true, true, true, true, true, true, true, true, true, true, true, true, true, true, true, true, true, false, false, false, false, false, false, false, false, false, false, false, false, false, false] rfl rfl (any_of HT_.out (by kernel_rfl)) (fun _ _ _ h => h) (Or.inl ⟨by rfl, ?_⟩) ?_ ?_
    rotate_left
    · intro w'
      go_simp
      with_reducible rfl
    rotate_left
    · simp only [Act.put, List.setIfInBounds_toArray, List.set_cons_zero, List.set_cons_succ, i64_w, i32_w]
      rfl
    refine pure_ (i := 18) (N := some 39) (v := ?_) (a' := ?_) #[true, true, true, true, true, true, true, true, true, true, true, true, true, true, true, true, true, true, true, false, false, false, false, false, false, false, false, false, false, false, false, false] rfl rfl (any_of HT_.out (by kernel_rfl)) (fun _ _ _ h => h) (Or.inl ⟨by rfl, ?_⟩) ?_ ?_
    rotate_left
    · intro w'
      go_simp
      with_reducible rfl
    rotate_left
    · simp only [Act.put, List.setIfInBounds_toArray, List.set_cons_zero, List.set_cons_succ, i64_w, i32_w]
      rfl
    refine take_ (i := 19) (N := some 40) (v := ?_) (a' := ?_) #[true, true, true, true, true, true, true, true, true, true, true, true, true, true, true, true, true, true, true, true, false, false, false, false, false, false, false, false, false, false, false, false] rfl rfl (take_ofW HT_.out HW_.out (by kernel_rfl)) (fun _ _ _ h => h) (Or.inl ⟨by rfl, ?_⟩) hHeld ?_ ?_
    rotate_left
    · rintro w' ⟨s0, s1, s2, s3⟩
      go_simp
      with_reducible rfl
    rotate_left
    · simp only [Act.put, List.setIfInBounds_toArray, List.set_cons_zero, List.set_cons_succ, i64_w, i32_w]
      rfl
    refine pure_ (i := 20) (N := some 41) (v := ?_) (a' := ?_) #[true, true, true, true, true, true, true, true, true, true, true, true, true, true, true, true, true, true, true, true, true, false, false, false, false, false, false, false, false, false, false, false] rfl rfl (any_of HT_.out (by kernel_rfl)) (fun _ _ _ h => h) (Or.inl ⟨by rfl, ?_⟩) ?_ ?_
    rotate_left
    · intro w'
      go_simp
      with_reducible rfl
    rotate_left
    · simp only [Act.put, List.setIfInBounds_toArray, List.set_cons_zero, List.set_cons_succ, i64_w, i32_w]
      rfl
    refine pure_ (i := 21) (N := some 42) (v := ?_) (a' := ?_) #[true, true, true, true, true, true, true, true, true, true, true, true, true, true, true, true, true, true, true, true, true, true, false, false, false, false, false, false, false, false, false, false] rfl rfl (any_of HT_.out (by kernel_rfl)) (fun _ _ _ h => h) (Or.inl ⟨by rfl, ?_⟩) ?_ ?_
    rotate_left
    · intro w'
      go_simp
      with_reducible rfl
    rotate_left
    · simp only [Act.put, List.setIfInBounds_toArray, List.set_cons_zero, List.set_cons_succ, i64_w, i32_w]
      rfl
    refine pure_ (i := 22) (N := some 43) (v := ?_) (a' := ?_) #[true, true, true, true, true, true, true, true, true, true, true, true, true, true, true, true, true, true, true, true, true, true, true, false, false, false, false, false, false, false, false, false] rfl rfl (any_of HT_.out (by kernel_rfl)) (fun _ _ _ h => h) (Or.inl ⟨by rfl, ?_⟩) ?_ ?_
    rotate_left
    · intro w'
      go_simp
      with_reducible rfl
    rotate_left
    · simp only [Act.put, List.setIfInBounds_toArray, List.set_cons_zero, List.set_cons_succ, i64_w, i32_w]
      rfl
    refine pure_ (i := 23) (N := some 44) (v := ?_) (a' := ?_) #[true, true, true, true, true, true, true, true, true, true, true, true, true, true, true, true, true, true, true, true, true, true, true, true, false, false, false, false, false, false, false, false] rfl rfl (any_of HT_.out (by kernel_rfl)) (fun _ _ _ h => h) (Or.inl ⟨by rfl, ?_⟩) ?_ ?_
    rotate_left
    · intro w'
      go_simp
      with_reducible rfl
    rotate_left
    · simp only [Act.put, List.setIfInBounds_toArray, List.set_cons_zero, List.set_cons_succ, i64_w, i32_w]
      rfl
    refine pure_ (i := 24) (N := some 45) (v := ?_) (a' := ?_) #[true, true, true, true, true, true, true, true, true, true, true, true, true, true, true, true, true, true, true, true, true, true, true, true, true, false, false, false, false, false, false, false] rfl rfl (any_of HT_.out (by kernel_rfl)) (fun _ _ _ h => h) (Or.inl ⟨by rfl, ?_⟩) ?_ ?_
    rotate_left
    · intro w'
      go_simp
      with_reducible rfl
    rotate_left
    · simp only [Act.put, List.setIfInBounds_toArray, List.set_cons_zero, List.set_cons_succ, i64_w, i32_w]
      rfl
    refine pure_ (i := 25) (N := some 46) (v := ?_) (a' := ?_) #[true, true, true, true, true, true, true, true, true, true, true, true, true, true, true, true, true, true, true, true, true, true, true, true, true, true, false, false, false, false, false, false] rfl rfl (any_of HT_.out (by kernel_rfl)) (fun _ _ _ h => h) (Or.inl ⟨by rfl, ?_⟩) ?_ ?_
    rotate_left
    · intro w'
      go_simp
      with_reducible rfl
    rotate_left
    · simp only [Act.put, List.setIfInBounds_toArray, List.set_cons_zero, List.set_cons_succ, i64_w, i32_w]
      rfl
    refine pure_ (i := 26) (N := some 47) (v := ?_) (a' := ?_) #[true, true, true, true, true, true, true, true, true, true, true, true, true, true, true, true, true, true, true, true, true, true, true, true, true, true, true, false, false, false, false, false] rfl rfl (any_of HT_.out (by kernel_rfl)) (fun _ _ _ h => h) (Or.inl ⟨by rfl, ?_⟩) ?_ ?_
    rotate_left
    · intro w'
      go_simp
      with_reducible rfl
    rotate_left
    · simp only [Act.put, List.setIfInBounds_toArray, List.set_cons_zero, List.set_cons_succ, i64_w, i32_w]
      rfl
    refine take_ (i := 27) (N := some 48) (v := ?_) (a' := ?_) #[true, true, true, true, true, true, true, true, true, true, true, true, true, true, true, true, true, true, true, true, true, true, true, true, true, true, true, true, false, false, false, false] rfl rfl (take_ofW HT_.out HW_.out (by kernel_rfl)) (fun _ _ _ h => h) (Or.inl ⟨by rfl, ?_⟩) hHeld ?_ ?_
    rotate_left
    · rintro w' ⟨s0, s1, s2, s3⟩
      go_simp
      with_reducible rfl
    rotate_left
    · simp only [Act.put, List.setIfInBounds_toArray, List.set_cons_zero, List.set_cons_succ, i64_w, i32_w]
      rfl
    refine pure_ (i := 28) (N := some 49) (v := ?_) (a' := ?_) #[true, true, true, true, true, true, true, true, true, true, true, true, true, true, true, true, true, true, true, true, true, true, true, true, true, true, true, true, true, false, false, false] rfl rfl (any_of HT_.out (by kernel_rfl)) (fun _ _ _ h => h) (Or.inl ⟨by rfl, ?_⟩) ?_ ?_
    rotate_left
    · intro w'
      go_simp
      with_reducible rfl
    rotate_left
    · simp only [Act.put, List.setIfInBounds_toArray, List.set_cons_zero, List.set_cons_succ, i64_w, i32_w]
      rfl
    refine pure_ (i := 29) (N := some 50) (v := ?_) (a' := ?_) #[true, true, true, true, true, true, true, true, true, true, true, true, true, true, true, true, true, true, true, true, true, true, true, true, true, true, true, true, true, true, false, false] rfl rfl (any_of HT_.out (by kernel_rfl)) (fun _ _ _ h => h) (Or.inl ⟨by rfl, ?_⟩) ?_ ?_
    rotate_left
    · intro w'
      go_simp
      with_reducible rfl
    rotate_left
    · simp only [Act.put, List.setIfInBounds_toArray, List.set_cons_zero, List.set_cons_succ, i64_w, i32_w]
      rfl
    refine pure_ (i := 30) (N := some 51) (v := ?_) (a' := ?_) #[true, true, true, true, true, true, true, true, true, true, true, true, true, true, true, true, true, true, true, true, true, true, true, true, true, true, true, true, true, true, true, false] rfl rfl (any_of HT_.out (by kernel_rfl)) (fun _ _ _ h => h) (Or.inl ⟨by rfl, ?_⟩) ?_ ?_
    rotate_left
    · intro w'
      go_simp
      with_reducible rfl
    rotate_left
    · simp only [Act.put, List.setIfInBounds_toArray, List.set_cons_zero, List.set_cons_succ, i64_w, i32_w]
      rfl
    refine last_ (i := 31) (N := none) #[true, true, true, true, true, true, true, true, true, true, true, true, true, true, true, true, true, true, true, true, true, true, true, true, true, true, true, true, true, true, true, true] rfl rfl (one_of HT_.out (by kernel_rfl)) (by decide) (fun K hK => ?_)
    have e5 := HD.out.at5 t (by rw [w16_length]; omega)
    have f5 := blk_frozen HD.out.b5 t
    refine skip_ (w1 := ?_) (by rfl) rfl ?_ ?_
    rotate_left
    · go_simp
      rfl
    refine hK.out _ _ ?_
    clear hK K
    refine done_ (done_of HT_.out (by kernel_rfl)) ?_
    replace HD := Aside0.mk (HD.out.put t (asm b t))
    go_wp2_with fail
    go_roundw
    case rel => exact ⟨t + 1, by omega, by go_num, HD⟩
    case measure => simp [intOf]; omega
  obtain rfl : t = 16 := by omega
  clear hlt ht
  go_wp2_with fail
  rw [show ((16 : Nat) : Int) = 16 from rfl]
  generalize wr = wa at *
  have H0 : Aside0 (WH w wa g4 g5 (w64 b 0)) := HX
  clear HX
  go_loopw [8] (fun v8 wi => ∃ (t : Nat), 16 ≤ t ∧ t ≤ 64 ∧ v8 = .int .i64 t ∧ Aside0 (WH w wi g4 g5 (w64 b (t - 16)))) (fun v8 _ => 64 - (intOf v8).toNat)
  case atStart => exact ⟨16, by omega, by omega, rfl, H0⟩
  case round =>
  clear H0
  obtain ⟨t, ht0, ht1, rfl, HX⟩ := hrel
  by_cases hlt : t < 64
  · have r0 : ((t : Int) < 64) = True := by simp; omega
    have q2 : wrap64 ((t : Int) - 2) = (t : Int) - 2 := by unfold wrap64; omega
    have p2 : (0 ≤ (t : Int) - 2) = True := by simp; omega
    have o2 : (2 ≤ (t : Int)) = True := by simp; omega
    have r2 : ((t : Int) - 2 < 64) = True := by simp; omega
    have q7 : wrap64 ((t : Int) - 7) = (t : Int) - 7 := by unfold wrap64; omega
    have p7 : (0 ≤ (t : Int) - 7) = True := by simp; omega
    have o7 : (7 ≤ (t : Int)) = True := by simp; omega
    have r7 : ((t : Int) - 7 < 64) = True := by simp; omega
    have q15 : wrap64 ((t : Int) - 15) = (t : Int) - 15 := by unfold wrap64; omega
    have p15 : (0 ≤ (t : Int) - 15) = True := by simp; omega
    have o15 : (15 ≤ (t : Int)) = True := by simp; omega
    have r15 : ((t : Int) - 15 < 64) = True := by simp; omega
    have q16 : wrap64 ((t : Int) - 16) = (t : Int) - 16 := by unfold wrap64; omega
    have p16 : (0 ≤ (t : Int) - 16) = True := by simp; omega
    have o16 : (16 ≤ (t : Int)) = True := by simp; omega
    have r16 : ((t : Int) - 16 < 64) = True := by simp; omega
    have c15 := HX.out.at5 (t - 15) (by rw [w64_length]; omega)
    rw [show ((t - 15 : Nat) : Int) = (t : Int) - 15 by omega] at c15
    have c2 := HX.out.at5 (t - 2) (by rw [w64_length]; omega)
    rw [show ((t - 2 : Nat) : Int) = (t : Int) - 2 by omega] at c2
    go_upto_region 14 with (go_at_call 92; refine (rrotr_calls _ _ _ (by decide) (by decide)).mono ?_; rintro e u ⟨rfl, hb⟩; replace HX := Aside0.mk (HX.out.next hb); clear hb)
    clear c15 c2
    have c7 := Aside0.mk (HX.out.at5 ((t : Int) - 7).toNat (by rw [w64_length]; omega))
    rw [show ((((t : Int) - 7).toNat : Nat) : Int) = (t : Int) - 7 by omega] at c7
    have c16 := Aside0.mk (HX.out.at5 ((t : Int) - 16).toNat (by rw [w64_length]; omega))
    rw [show ((((t : Int) - 16).toNat : Nat) : Int) = (t : Int) - 16 by omega] at c16
    have HD := Aside0.mk HX.out.drew
    refine start_ (n := 16) (S := fun w' => w'.cell? ⟨g5, ((t : Int) - 7).toNat, none⟩ = some (.int .u32 (rd (w64 b (t - 16)) ((t : Int) - 7))) ∧ w'.cell? ⟨g5, ((t : Int) - 16).toNat, none⟩ = some (.int .u32 (rd (w64 b (t - 16)) ((t : Int) - 16)))) (ds := [15]) #[false, false, false, false, false, false, false, false, false, false, false, false, false, false, false, false] (by kernel_rfl) rfl rfl ⟨c7.out, c16.out⟩ (fun hHeld => ?_)
    refine with_tabW r90_14_tab r90_14_bits (fun HT_ HW_ => ?_)
    generalize World.drew u = W1 at HD hHeld ⊢
    refine pure_ (i := 0) (N := some 80) (v := ?_) (a' := ?_) #[true, false, false, false, false, false, false, false, false, false, false, false, false, false, false, false] rfl rfl (any_of HT_.out (by kernel_rfl)) (fun _ _ _ h => h) (Or.inl ⟨by rfl, ?_⟩) ?_ ?_
    rotate_left
    · intro w'
      go_simp
      with_reducible rfl
    rotate_left
    · simp only [Act.put, List.setIfInBounds_toArray, List.set_cons_zero, List.set_cons_succ, i64_w, i32_w]
      rfl
    refine pure_ (i := 1) (N := some 81) (v := ?_) (a' := ?_) #[true, true, false, false, false, false, false, false, false, false, false, false, false, false, false, false] rfl rfl (any_of HT_.out (by kernel_rfl)) (fun _ _ _ h => h) (Or.inl ⟨by rfl, ?_⟩) ?_ ?_
    rotate_left
    · intro w'
      go_simp
      with_reducible rfl
    rotate_left
    · simp only [Act.put, List.setIfInBounds_toArray, List.set_cons_zero, List.set_cons_succ, i64_w, i32_w]
      rfl
    refine pure_ (i := 2) (N := some 82) (v := ?_) (a' := ?_) #[true, true, true, false, false, false, false, false, false, false, false, false, false, false, false, false] rfl rfl (any_of HT_.out (by kernel_rfl)) (fun _ _ _ h => h) (Or.inl ⟨by rfl, ?_⟩) ?_ ?_
    rotate_left
    · intro w'
      go_simp
      with_reducible rfl
    rotate_left
    · simp only [Act.put, List.setIfInBounds_toArray, List.set_cons_zero, List.set_cons_succ, i64_w, i32_w]
      rfl
    refine pure_ (i := 3) (N := some 83) (v := ?_) (a' := ?_) #[true, true, true, true, false, false, false, false, false, false, false, false, false, false, false, false] rfl rfl (any_of HT_.out (by kernel_rfl)) (fun _ _ _ h => h) (Or.inl ⟨by rfl, ?_⟩) ?_ ?_
    rotate_left
    · intro w'
      go_simp
      with_reducible rfl
    rotate_left
    · simp only [Act.put, List.setIfInBounds_toArray, List.set_cons_zero, List.set_cons_succ, i64_w, i32_w]
      rfl
    refine pure_ (i := 4) (N := some 84) (v := ?_) (a' := ?_) #[true, true, true, true, true, false, false, false, false, false, false, false, false, false, false, false] rfl rfl (any_of HT_.out (by kernel_rfl)) (fun _ _ _ h => h) (Or.inl ⟨by rfl, ?_⟩) ?_ ?_
    rotate_left
    · intro w'
      go_simp
      with_reducible rfl
    rotate_left
    · simp only [Act.put, List.setIfInBounds_toArray, List.set_cons_zero, List.set_cons_succ, i64_w, i32_w]
      rfl
    refine take_ (i := 5) (N := some 85) (v := ?_) (a' := ?_) #[true, true, true, true, true, true, false, false, false, false, false, false, false, false, false, false] rfl rfl (take_ofW HT_.out HW_.out (by kernel_rfl)) (fun _ _ _ h => h) (Or.inl ⟨by rfl, ?_⟩) hHeld ?_ ?_
    rotate_left
    · rintro w' ⟨s0, s1⟩
      go_simp
      with_reducible rfl
    rotate_left
    · simp only [Act.put, List.setIfInBounds_toArray, List.set_cons_zero, List.set_cons_succ, i64_w, i32_w]
      rfl
    refine pure_ (i := 6) (N := some 86) (v := ?_) (a' := ?_) #[true, true, true, true, true, true, true, false, false, false, false, false, false, false, false, false] rfl rfl (any_of HT_.out (by kernel_rfl)) (fun _ _ _ h => h) (Or.inl ⟨by rfl, ?_⟩) ?_ ?_
    rotate_left
    · intro w'
      go_simp
      with_reducible rfl
    rotate_left
    · simp only [Act.put, List.setIfInBounds_toArray, List.set_cons_zero, List.set_cons_succ, i64_w, i32_w]
      rfl
    refine pure_ (i := 7) (N := some 87) (v := ?_) (a' := ?_) #[true, true, true, true, true, true, true, true, false, false, false, false, false, false, false, false] rfl rfl (any_of HT_.out (by kernel_rfl)) (fun _ _ _ h => h) (Or.inl ⟨by rfl, ?_⟩) ?_ ?_
    rotate_left
    · intro w'
      go_simp
      with_reducible rfl
    rotate_left
    · simp only [Act.put, List.setIfInBounds_toArray, List.set_cons_zero, List.set_cons_succ, i64_w, i32_w]
      rfl
    refine pure_ (i := 8) (N := some 88) (v := ?_) (a' := ?_) #[true, true, true, true, true, true, true, true, true, false, false, false, false, false, false, false] rfl rfl (any_of HT_.out (by kernel_rfl)) (fun _ _ _ h => h) (Or.inl ⟨by rfl, ?_⟩) ?_ ?_
    rotate_left
    · intro w'
      go_simp
      with_reducible rfl
    rotate_left
    · simp only [Act.put, List.setIfInBounds_toArray, List.set_cons_zero, List.set_cons_succ, i64_w, i32_w]
      rfl
    refine pure_ (i := 9) (N := some 89) (v := ?_) (a' := ?_) #[true, true, true, true, true, true, true, true, true, true, false, false, false, false, false, false] rfl rfl (any_of HT_.out (by kernel_rfl)) (fun _ _ _ h => h) (Or.inl ⟨by rfl, ?_⟩) ?_ ?_
    rotate_left
    · intro w'
      go_simp
      with_reducible rfl
    rotate_left
    · simp only [Act.put, List.setIfInBounds_toArray, List.set_cons_zero, List.set_cons_succ, i64_w, i32_w]
      rfl
    refine pure_ (i := 10) (N := some 90) (v := ?_) (a' := ?_) #[true, true, true, true, true, true, true, true, true, true, true, false, false, false, false, false] rfl rfl (any_of HT_.out (by kernel_rfl)) (fun _ _ _ h => h) (Or.inl ⟨by rfl, ?_⟩) ?_ ?_
    rotate_left
    · intro w'
      go_simp
      with_reducible rfl
    rotate_left
    · simp only [Act.put, List.setIfInBounds_toArray, List.set_cons_zero, List.set_cons_succ, i64_w, i32_w]
      rfl
    refine pure_ (i := 11) (N := some 91) (v := ?_) (a' := ?_) #[true, true, true, true, true, true, true, true, true, true, true, true, false, false, false, false] rfl rfl (any_of HT_.out (by kernel_rfl)) (fun _ _ _ h => h) (Or.inl ⟨by rfl, ?_⟩) ?_ ?_
    rotate_left
    · intro w'
      go_simp
      with_reducible rfl
    rotate_left
    · simp only [Act.put, List.setIfInBounds_toArray, List.set_cons_zero, List.set_cons_succ, i64_w, i32_w]
      rfl
    refine take_ (i := 12) (N := some 92) (v := ?_) (a' := ?_) #[true, true, true, true, true, true, true, true, true, true, true, true, true, false, false, false] rfl rfl (take_ofW HT_.out HW_.out (by kernel_rfl)) (fun _ _ _ h => h) (Or.inl ⟨by rfl, ?_⟩) hHeld ?_ ?_
    rotate_left
    · rintro w' ⟨s0, s1⟩
      go_simp
      with_reducible rfl
    rotate_left
    · simp only [Act.put, List.setIfInBounds_toArray, List.set_cons_zero, List.set_cons_succ, i64_w, i32_w]
      rfl
    refine pure_ (i := 13) (N := some 93) (v := ?_) (a' := ?_) #[true, true, true, true, true, true, true, true, true, true, true, true, true, true, false, false] rfl rfl (any_of HT_.out (by kernel_rfl)) (fun _ _ _ h => h) (Or.inl ⟨by rfl, ?_⟩) ?_ ?_
    rotate_left
    · intro w'
      go_simp
      with_reducible rfl
    rotate_left
    · simp only [Act.put, List.setIfInBounds_toArray, List.set_cons_zero, List.set_cons_succ, i64_w, i32_w]
      rfl
    refine pure_ (i := 14) (N := some 94) (v := ?_) (a' := ?_) #[true, true, true, true, true, true, true, true, true, true, true, true, true, true, true, false] rfl rfl (any_of HT_.out (by kernel_rfl)) (fun _ _ _ h => h) (Or.inl ⟨by rfl, ?_⟩) ?_ ?_
    rotate_left
    · intro w'
      go_simp
      with_reducible rfl
    rotate_left
    · simp only [Act.put, List.setIfInBounds_toArray, List.set_cons_zero, List.set_cons_succ, i64_w, i32_w]
      rfl
    refine last_ (i := 15) (N := none) #[true, true, true, true, true, true, true, true, true, true, true, true, true, true, true, true] rfl rfl (one_of HT_.out (by kernel_rfl)) (by decide) (fun K hK => ?_)
    have e5 := HD.out.at5 t (by rw [w64_length]; omega)
    have f5 := blk_frozen HD.out.b5 t
    refine skip_ (w1 := ?_) (by rfl) rfl ?_ ?_
    rotate_left
    · go_simp
      rfl
    refine hK.out _ _ ?_
    clear hK K
    refine done_ (done_of HT_.out (by kernel_rfl)) ?_
    have HN : Aside0 (w64 b (t + 1 - 16) = (w64 b (t - 16)).set t (nx (w64 b (t - 16)) (t : Int))) := ⟨by
      obtain ⟨u, rfl⟩ : ∃ u, t = 16 + u := ⟨t - 16, by omega⟩
      have e1 : 16 + u + 1 - 16 = u + 1 := by omega
      have e2 : 16 + u - 16 = u := by omega
      rw [e1, e2]
      rfl⟩
    replace HD := Aside0.mk (HD.out.put t (nx (w64 b (t - 16)) (t : Int)))
    rw [← HN.out] at HD
    clear e5 f5 HX c7 c16 hHeld
    go_wp2_with fail
    go_roundw
    case rel => exact ⟨t + 1, by omega, by omega, by go_num, HD⟩
    case measure => simp [intOf]; omega
  obtain rfl : t = 64 := by omega
  clear hlt ht0 ht1
  go_wp2_with (first
    | ((with_reducible refine gate_dst (N := 95) rfl ?_); refine get_row rfl rfl rfl HX.out.b5 Try.underlying124 rfl (info124.trans (by rw [size_u32s, w64_length])) rfl ?_)
    | ((with_reducible refine gate_store (t := 124) (p := 4) rfl ?_); refine put_row rfl rfl rfl (g := g4) (u32s (w64 b 48)) rfl rfl HX.out.b4 (info124.trans (by rw [size_u32s, w64_length])) (by rw [size_u32s, size_u32s, w64_length]; rfl) (all_one _ _) ?_; intro w20 h1 h2; have HR := Aside0.mk h1; have HWr := Aside0.mk h2; clear h1 h2))
  refine bodyPost_ret (results_cell_row rfl _ _ g4 124 _ (0, 0) _ rfl HR.out Try.underlying124 rfl (info124.trans (by rw [size_u32s, w64_length]))) rfl ?_
  refine ⟨?_, HWr.out.below HX.out.below HX.out.l4⟩
  rw [HBB.out]
end Go.Proofs.Ytcgajjaaiablkaa.ShaRef
