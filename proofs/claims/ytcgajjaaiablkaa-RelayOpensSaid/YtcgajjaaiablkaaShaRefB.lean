/- The reference's SHA-256: the eight words behind a block. -/
import Derived.Test.YtcgajjaaiablkaaShaRef
namespace Go.Proofs.Ytcgajjaaiablkaa.ShaRefB
open Go.RowKit Go.Proofs.YtcgajjaaiablkaaW.PrintWords Go.Proofs.YtcgajjaaiablkaaW.PrintLast Go.Proofs.YtcgajjaaiablkaaW.PrintMore
open Go.Proofs.Ytcgajjaaiablkaa.PRelaySealed Go.Proofs.Ytcgajjaaiablkaa.ShaP Go.Proofs.Ytcgajjaaiablkaa.ShaM Go.Proofs.Ytcgajjaaiablkaa.ShaRound Go.Proofs.Ytcgajjaaiablkaa.ShaRef
set_option linter.unusedVariables false
set_option linter.unusedSimpArgs false

theorem sums_comm (x s : List Int) (hx : x.length = 8) (hs : s.length = 8) : sums x s 8 = sums s x 8 := by
  match x, hx, s, hs with
  | [x0, x1, x2, x3, x4, x5, x6, x7], _, [s0, s1, s2, s3, s4, s5, s6, s7], _ =>
    show [(x0 + s0) % 4294967296, (x1 + s1) % 4294967296, (x2 + s2) % 4294967296, (x3 + s3) % 4294967296, (x4 + s4) % 4294967296, (x5 + s5) % 4294967296, (x6 + s6) % 4294967296, (x7 + s7) % 4294967296] = [(s0 + x0) % 4294967296, (s1 + x1) % 4294967296, (s2 + x2) % 4294967296, (s3 + x3) % 4294967296, (s4 + x4) % 4294967296, (s5 + x5) % 4294967296, (s6 + x6) % 4294967296, (s7 + x7) % 4294967296]
    rw [Int.add_comm x0, Int.add_comm x1, Int.add_comm x2, Int.add_comm x3, Int.add_comm x4, Int.add_comm x5, Int.add_comm x6, Int.add_comm x7]
theorem no_eq (x : Int) : no x = Go.bits .xor .u32 IntKind.u32.max x := rfl
/-- Where block stands: the words that came in (g3), the answer's place, the 64 words, the table, the words of the rounds (g9). -/
structure BK (w0 W : World) (g3 g6 g7 g8 g9 : Nat) (v ws x : List Int) : Prop where
  below : Below w0.heap.size w0 W
  b3 : W.heap[g3]? = some (.cells (u32s v) 97 (0, 0))
  b6 : W.heap[g6]? = some (.cells (u32s (List.replicate 8 0)) 97 (0, 0))
  b7 : W.heap[g7]? = some (.cells (u32s ws) 124 (0, 0))
  b8 : W.heap[g8]? = some (.cells (u32s kT) 124 (0, 0))
  b9 : W.heap[g9]? = some (.cells (u32s x) 97 (0, 0))
  l3 : w0.heap.size ≤ g3
  l6 : w0.heap.size ≤ g6
  l9 : w0.heap.size ≤ g9
  n39 : g3 ≠ g9
  n69 : g6 ≠ g9
  n79 : g7 ≠ g9
  n89 : g8 ≠ g9
  n36 : g6 ≠ g3
  n37 : g7 ≠ g3
  n38 : g8 ≠ g3
section
variable {w0 W W1 : World} {g3 g6 g7 g8 g9 : Nat} {v ws x : List Int}
theorem BK.next (h : BK w0 W g3 g6 g7 g8 g9 v ws x) (hb : Below W.heap.size W W1) : BK w0 W1 g3 g6 g7 g8 g9 v ws x :=
  ⟨below_step h.below hb, (hb.block g3 (blk_lt h.b3)).trans h.b3, (hb.block g6 (blk_lt h.b6)).trans h.b6, (hb.block g7 (blk_lt h.b7)).trans h.b7, (hb.block g8 (blk_lt h.b8)).trans h.b8, (hb.block g9 (blk_lt h.b9)).trans h.b9, h.l3, h.l6, h.l9, h.n39, h.n69, h.n79, h.n89, h.n36, h.n37, h.n38⟩
theorem BK.drew (h : BK w0 W g3 g6 g7 g8 g9 v ws x) : BK w0 W.drew g3 g6 g7 g8 g9 v ws x := h.next (below_drew1 (Below.refl _ W))
theorem BK.wrote (h : BK w0 W g3 g6 g7 g8 g9 v ws x) {y : List Int} (hr : W1.heap[g9]? = some (.cells (u32s y) 97 (0, 0))) (hw : Wrote W W1 g9) : BK w0 W1 g3 g6 g7 g8 g9 v ws y :=
  ⟨hw.below h.below h.l9, hw.other h.b3 h.n39, hw.other h.b6 h.n69, hw.other h.b7 h.n79, hw.other h.b8 h.n89, hr, h.l3, h.l6, h.l9, h.n39, h.n69, h.n79, h.n89, h.n36, h.n37, h.n38⟩
theorem BK.put (h : BK w0 W g3 g6 g7 g8 g9 v ws x) (j : Nat) (y : Int) : BK w0 (W.setCell ⟨g3, j, none⟩ (.int .u32 y)) g3 g6 g7 g8 g9 (v.set j y) ws x :=
  ⟨below_set h.below h.l3, by rw [← u32s_set]; exact blk_set h.b3 j (.int .u32 y), blk_far h.b6 h.n36 _, blk_far h.b7 h.n37 _, blk_far h.b8 h.n38 _, blk_far h.b9 (Ne.symm h.n39) _, h.l3, h.l6, h.l9, h.n39, h.n69, h.n79, h.n89, h.n36, h.n37, h.n38⟩
theorem BK.at9 (h : BK w0 W g3 g6 g7 g8 g9 v ws x) (j : Nat) (hj : j < x.length) : W.cell? ⟨g9, j, none⟩ = some (.int .u32 (rd x (j : Int))) := (blk_cell h.b9 j).trans (u32s_at x j hj)
end
def r66_9_T : Bool × List (List Nat × List Nat) := (true, [([], []), ([0], [0]), ([], []), ([2], [2]), ([], []), ([4, 3], [4]), ([3, 5], [3, 5]), ([], []), ([7, 5], [7]), ([6, 8], [6, 8]), ([1, 9], [1, 9]), ([], []), ([], []), ([12], [12]), ([11, 13], [11, 13]), ([], []), ([15], [15]), ([], []), ([17], [17]), ([16, 18], [16, 18]), ([14, 19], [14, 19]), ([10, 20], [10, 20]), ([], []), ([22], [22]), ([23], [23]), ([21, 24], [21, 24]), ([], []), ([26], [26]), ([27], [27]), ([25, 28], [25, 28]), ([29, 8, 0, 1, 2, 3, 4, 5, 6, 7, 8, 9, 10, 11, 12, 13, 14, 15, 16, 17, 18, 19, 20, 21, 22, 23, 24, 25, 26, 27, 28, 29], [29])])
def r66_9_B : List Nat := [0, 1, 0, 4, 0, 28, 60, 0, 188, 508, 1023, 0, 0, 4096, 14336, 0, 32768, 0, 131072, 491520, 1046528, 2097151, 0, 4194304, 12582912, 33554431, 0, 67108864, 201326592, 536870911, 1073741823]
theorem r66_9_tab : rtab .any (opsOf Try.f66 9) = r66_9_T := by kernel_rfl
theorem r66_9_bits : waitsOk r66_9_T.2 r66_9_B = true := by kernel_rfl
def r66_10_T : Bool × List (List Nat × List Nat) := (true, [([], []), ([0], [0]), ([], []), ([2, 1], [2]), ([1, 3], [1, 3]), ([], []), ([5, 3], [5]), ([4, 6], [4, 6]), ([], []), ([], []), ([9], [9]), ([8, 10], [8, 10]), ([], []), ([], []), ([13], [13]), ([12, 14], [12, 14]), ([11, 15], [11, 15]), ([], []), ([17], [17]), ([], []), ([19], [19]), ([18, 20], [18, 20]), ([16, 21], [16, 21]), ([7, 22], [7, 22]), ([23, 6, 0, 1, 2, 3, 4, 5, 6, 7, 8, 9, 10, 11, 12, 13, 14, 15, 16, 17, 18, 19, 20, 21, 22, 23], [23])])
def r66_10_B : List Nat := [0, 1, 0, 7, 15, 0, 47, 127, 0, 0, 512, 1792, 0, 0, 8192, 28672, 65280, 0, 131072, 0, 524288, 1966080, 4194048, 8388607, 16777215]
theorem r66_10_tab : rtab .any (opsOf Try.f66 10) = r66_10_T := by kernel_rfl
theorem r66_10_bits : waitsOk r66_10_T.2 r66_10_B = true := by kernel_rfl
def r66_15_T : Bool × List (List Nat × List Nat) := (true, [([], []), ([], []), ([1], [1]), ([2], [2]), ([], []), ([4], [4]), ([5], [5]), ([3, 6], [3, 6]), ([0, 0, 1, 2, 3, 4, 5, 6, 7], [0]), ([8, 7, 0, 1, 2, 3, 4, 5, 6, 7], [7, 8])])
def r66_15_B : List Nat := [0, 0, 2, 6, 0, 16, 48, 126, 255, 511]
theorem r66_15_tab : rtab .any (opsOf Try.f66 15) = r66_15_T := by kernel_rfl
theorem r66_15_bits : waitsOk r66_15_T.2 r66_15_B = true := by kernel_rfl
set_option maxHeartbeats 8000000 in
set_option maxRecDepth 100000 in
theorem block_calls (v p : List Int) (A : Option Addr) (c i : Nat) (w : World) (hv : v.length = 8) (hC : Kd.C (Kd.int .u8) w A p.length p) (hi : i + 64 ≤ p.length) (hl : p.length ≤ 281474976710656) :
    Calls Try.prog 66 #[.agg (u32s v), .slice A p.length c, .int .i64 i] w fun e w' => e = .returned (.agg (u32s (comp v ((p.drop i).take 64)))) ∧ Below w.heap.size w w' := by
  have HC := Aside0.mk hC
  have HV := Aside0.mk hv
  clear hC hv
  go_enter Try.func66, Try.ntmps66
  go_upto_region 1 with (first
    | ((with_reducible refine gate_dst (N := 3) rfl ?_); refine box_event_ 97 (u32s v) rfl rfl (by first | (go_simp; done) | (go_simp; rfl)) ?_; intro g3 w1 hg hA hb; have HA3 := Aside0.mk hA; have HB1 := Aside0.mk hb; have HG3 := Aside0.mk hg; clear hg hA hb)
    | ((with_reducible refine gate_dst (N := 6) rfl ?_); refine box_event_ 97 (u32s (List.replicate 8 0)) rfl rfl (by first | (go_simp; done) | (go_simp; rfl)) ?_; intro g6 w2 hg hA hb; have HA6 := Aside0.mk hA; have HB2 := Aside0.mk hb; have HG6 := Aside0.mk hg; clear hg hA hb))
  have HC2 := Aside0.mk (Kd.C_below HC.out (below_step HB1.out HB2.out))
  go_upto_region 2 with (first
    | (go_at_call 90; refine (words_calls p A c i _ HC2.out hi hl).mono ?_; rintro e w3 ⟨rfl, hb⟩; have HB3 := Aside0.mk hb; clear hb)
    | ((with_reducible refine gate_dst (N := 7) rfl ?_); refine box_event_ 124 (u32s (List.replicate 64 0)) rfl rfl (by first | (go_simp; done) | (go_simp; rfl)) ?_; intro g7 w4 hg hA hb; have HA7 := Aside0.mk hA; have HB4 := Aside0.mk hb; have HG7 := Aside0.mk hg; clear hg hA hb)
    | ((with_reducible refine gate_store (t := 124) (p := 7) rfl ?_); refine put_row rfl rfl rfl (g := g7) (u32s (w64 ((p.drop i).take 64) 48)) rfl rfl HA7.out (info124.trans (by rw [size_u32s, w64_length])) (by rw [size_u32s, size_u32s, w64_length]; rfl) (all_one _ _) ?_; intro w5 h1 h2; have HR7 := Aside0.mk h1; have HW7 := Aside0.mk h2; clear h1 h2))
  have HS3 : Aside0 (w5.heap[g3]? = some (.cells (u32s v) 97 (0, 0)) ∧ w5.heap[g6]? = some (.cells (u32s (List.replicate 8 0)) 97 (0, 0)) ∧ Below w.heap.size w w5 ∧ g3 ≠ g7 ∧ g6 ≠ g7 ∧ g6 ≠ g3 ∧ w.heap.size ≤ g3 ∧ w.heap.size ≤ g6) := ⟨by
    have k3 := blk_lt HA3.out
    have k6 := blk_lt HA6.out
    have e1 := HB1.out.size
    have e2 := HB2.out.size
    have e3 := HB3.out.size
    have g6l := HG6.out
    have g7l := HG7.out
    have hg3 := HG3.out
    have l3 : g3 < w2.heap.size := by omega
    have l33 : g3 < w3.heap.size := by omega
    have l63 : g6 < w3.heap.size := by omega
    have n3 : g3 ≠ g7 := by omega
    have n6 : g6 ≠ g7 := by omega
    exact ⟨HW7.out.other ((HB4.out.block g3 l33).trans ((HB3.out.block g3 l3).trans ((HB2.out.block g3 k3).trans HA3.out))) n3, HW7.out.other ((HB4.out.block g6 l63).trans ((HB3.out.block g6 k6).trans HA6.out)) n6, HW7.out.below (below_step (below_step (below_step HB1.out HB2.out) HB3.out) HB4.out) (by omega), n3, n6, by omega, by omega, by omega⟩⟩
  clear HA3 HA6 HA7 HB1 HB2 HB3 HB4 HG3 HG6 HG7 HW7 HC2
  go_upto_region 3 with (first
    | (go_at_call 91; refine (rtable_calls _).mono ?_; rintro e w6 ⟨rfl, hb⟩; have HB6 := Aside0.mk hb; clear hb)
    | ((with_reducible refine gate_dst (N := 8) rfl ?_); refine box_event_ 124 (u32s (List.replicate 64 0)) rfl rfl (by first | (go_simp; done) | (go_simp; rfl)) ?_; intro g8 w7 hg hA hb; have HA8 := Aside0.mk hA; have HB7 := Aside0.mk hb; have HG8 := Aside0.mk hg; clear hg hA hb)
    | ((with_reducible refine gate_store (t := 124) (p := 8) rfl ?_); refine put_row rfl rfl rfl (g := g8) (u32s kT) rfl rfl HA8.out info124 rfl (all_one _ _) ?_; intro w8 h1 h2; have HR8 := Aside0.mk h1; have HW8 := Aside0.mk h2; clear h1 h2))
  have HS8 : Aside0 ((∀ {k : Nat} {o : Obj}, w5.heap[k]? = some o → w8.heap[k]? = some o) ∧ Below w.heap.size w w8 ∧ (∀ k, k < w5.heap.size → k ≠ g8) ∧ w5.heap.size ≤ w8.heap.size) := ⟨by
    have e6 := HB6.out.size
    have e7 := HB7.out.size
    have hg := HG8.out
    have hw := HW8.out
    have e8 : w8.heap.size = w7.heap.size := by obtain ⟨cs, rfl⟩ := hw; simp [World.setRow]
    have hs := HS3.out.2.2.1.size
    refine ⟨fun {k o} h => ?_, hw.below (below_step (below_step HS3.out.2.2.1 HB6.out) HB7.out) (by omega), fun k hk => by omega, by omega⟩
    have hk := blk_lt h
    exact hw.other ((HB7.out.block k (by omega)).trans ((HB6.out.block k hk).trans h)) (by omega)⟩
  clear HA8 HB6 HB7 HG8 HW8
  have c3 := Aside0.mk (HS8.out.1 HS3.out.1)
  go_upto_region 4 with (first
    | ((with_reducible refine gate_dst (N := 20) rfl ?_); refine get_row rfl rfl rfl c3.out Try.underlying97 rfl (info97.trans (by rw [size_u32s, HV.out])) rfl ?_)
    | ((with_reducible refine gate_dst (N := 9) rfl ?_); refine box_event_ 97 (u32s (List.replicate 8 0)) rfl rfl (by first | (go_simp; done) | (go_simp; rfl)) ?_; intro g9 w9 hg hA hb; have HA9 := Aside0.mk hA; have HB9 := Aside0.mk hb; have HG9 := Aside0.mk hg; clear hg hA hb)
    | ((with_reducible refine gate_store (t := 97) (p := 9) rfl ?_); refine put_row rfl rfl rfl (g := g9) (u32s v) rfl rfl HA9.out (info97.trans (by rw [size_u32s, HV.out])) (by rw [size_u32s, size_u32s, HV.out]; rfl) (all_one _ _) ?_; intro w10 h1 h2; have HR9 := Aside0.mk h1; have HW9 := Aside0.mk h2; clear h1 h2))
  generalize hws : w64 ((p.drop i).take 64) 48 = ws at HR7 ⊢
  have HWS := Aside0.mk hws
  clear hws
  have HWL : Aside0 (ws.length = 64) := ⟨by rw [← HWS.out]; exact w64_length _ _⟩
  have H0 : Aside0 (BK w w10 g3 g6 g7 g8 g9 v ws (rounds ws v 0)) := ⟨by
    have a3 := blk_lt HS3.out.1
    have a6 := blk_lt HS3.out.2.1
    have a7 := blk_lt HR7.out
    have a8 := blk_lt HR8.out
    have hg := HG9.out
    have hs := HS8.out.2.2.2
    have hw := HS8.out.2.1.size
    have hx := HS8.out.2.2.1
    have up : ∀ {k : Nat} {o : Obj}, w8.heap[k]? = some o → w10.heap[k]? = some o := fun {k o} h => HW9.out.other ((HB9.out.block k (blk_lt h)).trans h) (by have := blk_lt h; omega)
    exact ⟨HW9.out.below (below_step HS8.out.2.1 HB9.out) (by omega), up c3.out, up (HS8.out.1 HS3.out.2.1), up (HS8.out.1 HR7.out), up HR8.out, HR9.out, HS3.out.2.2.2.2.2.2.1, HS3.out.2.2.2.2.2.2.2, by omega, by omega, by omega, by omega, by omega, HS3.out.2.2.2.2.2.1, Ne.symm HS3.out.2.2.2.1, Ne.symm (hx g3 a3)⟩⟩
  clear HS3 HS8 c3 HR7 HR8 HR9 HA9 HB9 HG9 HW9
  go_wp2_with fail
  go_loopw [10] (fun v10 wi => ∃ (t : Nat), t ≤ 64 ∧ v10 = .int .i64 t ∧ Aside0 (BK w wi g3 g6 g7 g8 g9 v ws (rounds ws v t))) (fun v10 _ => 64 - (intOf v10).toNat)
  case atStart => exact ⟨0, by omega, rfl, H0⟩
  case round =>
  clear H0
  obtain ⟨t, ht, rfl, HX⟩ := hrel
  by_cases hlt : t < 64
  · have r0 : ((t : Int) < 64) = True := by simp; omega
    have HXL : Aside0 ((rounds ws v t).length = 8) := ⟨rounds_length _ _ HV.out t⟩
    have HRN : Aside0 (rounds ws v (t + 1) = rndL (rounds ws v t) ((rd kT (t : Int) + rd ws (t : Int)) % 4294967296)) := ⟨rfl⟩
    generalize rounds ws v t = x at HX HXL HRN
    have x0 : wr.cell? ⟨g9, 0, none⟩ = some (.int .u32 (rd x 0)) := HX.out.at9 0 (by rw [HXL.out]; omega)
    have x4 : wr.cell? ⟨g9, 4, none⟩ = some (.int .u32 (rd x 4)) := HX.out.at9 4 (by rw [HXL.out]; omega)
    go_upto_region 9 with fail
    clear x0 x4
    have x5 : wr.cell? ⟨g9, 5, none⟩ = some (.int .u32 (rd x 5)) := HX.out.at9 5 (by rw [HXL.out]; omega)
    have X5 := Aside0.mk x5
    clear x5
    have x6 : wr.cell? ⟨g9, 6, none⟩ = some (.int .u32 (rd x 6)) := HX.out.at9 6 (by rw [HXL.out]; omega)
    have X6 := Aside0.mk x6
    clear x6
    have x7 : wr.cell? ⟨g9, 7, none⟩ = some (.int .u32 (rd x 7)) := HX.out.at9 7 (by rw [HXL.out]; omega)
    have X7 := Aside0.mk x7
    clear x7
    have K8 := Aside0.mk ((blk_cell HX.out.b8 t).trans (u32s_at kT t hlt))
    have K7 := Aside0.mk ((blk_cell HX.out.b7 t).trans (u32s_at ws t (by rw [HWL.out]; exact hlt)))
    have HD := Aside0.mk HX.out.drew
    refine start_ (n := 31) (S := fun w' => w'.cell? ⟨g9, 5, none⟩ = some (.int .u32 (rd x 5)) ∧ w'.cell? ⟨g9, 6, none⟩ = some (.int .u32 (rd x 6)) ∧ w'.cell? ⟨g9, 7, none⟩ = some (.int .u32 (rd x 7)) ∧ w'.cell? ⟨g8, t, none⟩ = some (.int .u32 (rd kT (t : Int))) ∧ w'.cell? ⟨g7, t, none⟩ = some (.int .u32 (rd ws (t : Int)))) (ds := []) #[false, false, false, false, false, false, false, false, false, false, false, false, false, false, false, false, false, false, false, false, false, false, false, false, false, false, false, false, false, false, false] (by kernel_rfl) rfl rfl ⟨X5.out, X6.out, X7.out, K8.out, K7.out⟩ (fun hHeld => ?_)
    refine with_tabW r66_9_tab r66_9_bits (fun HT_ HW_ => ?_)
    generalize World.drew wr = W1 at HD hHeld ⊢
    refine pure_ (i := 0) (N := some 29) (v := ?_) (a' := ?_) #[true, false, false, false, false, false, false, false, false, false, false, false, false, false, false, false, false, false, false, false, false, false, false, false, false, false, false, false, false, false, false] rfl rfl (any_of HT_.out (by kernel_rfl)) (fun _ _ _ h => h) (Or.inl ⟨by rfl, ?_⟩) ?_ ?_
    rotate_left
    · intro w'
      go_simp
      with_reducible rfl
    rotate_left
    · simp only [Act.put, List.setIfInBounds_toArray, List.set_cons_zero, List.set_cons_succ, i64_w, i32_w]
      rfl
    refine take_ (i := 1) (N := some 30) (v := ?_) (a' := ?_) #[true, true, false, false, false, false, false, false, false, false, false, false, false, false, false, false, false, false, false, false, false, false, false, false, false, false, false, false, false, false, false] rfl rfl (take_ofW HT_.out HW_.out (by kernel_rfl)) (fun _ _ _ h => h) (Or.inl ⟨by rfl, ?_⟩) hHeld ?_ ?_
    rotate_left
    · rintro w' ⟨s0, s1, s2, s3, s4⟩
      go_simp
      with_reducible rfl
    rotate_left
    · simp only [Act.put, List.setIfInBounds_toArray, List.set_cons_zero, List.set_cons_succ, i64_w, i32_w]
      rfl
    refine pure_ (i := 2) (N := some 31) (v := ?_) (a' := ?_) #[true, true, true, false, false, false, false, false, false, false, false, false, false, false, false, false, false, false, false, false, false, false, false, false, false, false, false, false, false, false, false] rfl rfl (any_of HT_.out (by kernel_rfl)) (fun _ _ _ h => h) (Or.inl ⟨by rfl, ?_⟩) ?_ ?_
    rotate_left
    · intro w'
      go_simp
      with_reducible rfl
    rotate_left
    · simp only [Act.put, List.setIfInBounds_toArray, List.set_cons_zero, List.set_cons_succ, i64_w, i32_w]
      rfl
    refine pure_ (i := 4) (N := some 33) (v := ?_) (a' := ?_) #[true, true, true, false, true, false, false, false, false, false, false, false, false, false, false, false, false, false, false, false, false, false, false, false, false, false, false, false, false, false, false] rfl rfl (any_of HT_.out (by kernel_rfl)) (fun _ _ _ h => h) (Or.inl ⟨by rfl, ?_⟩) ?_ ?_
    rotate_left
    · intro w'
      go_simp
      with_reducible rfl
    rotate_left
    · simp only [Act.put, List.setIfInBounds_toArray, List.set_cons_zero, List.set_cons_succ, i64_w, i32_w]
      rfl
    refine pure_ (i := 7) (N := some 36) (v := ?_) (a' := ?_) #[true, true, true, false, true, false, false, true, false, false, false, false, false, false, false, false, false, false, false, false, false, false, false, false, false, false, false, false, false, false, false] rfl rfl (any_of HT_.out (by kernel_rfl)) (fun _ _ _ h => h) (Or.inl ⟨by rfl, ?_⟩) ?_ ?_
    rotate_left
    · intro w'
      go_simp
      with_reducible rfl
    rotate_left
    · simp only [Act.put, List.setIfInBounds_toArray, List.set_cons_zero, List.set_cons_succ, i64_w, i32_w]
      rfl
    refine pure_ (i := 11) (N := some 40) (v := ?_) (a' := ?_) #[true, true, true, false, true, false, false, true, false, false, false, true, false, false, false, false, false, false, false, false, false, false, false, false, false, false, false, false, false, false, false] rfl rfl (any_of HT_.out (by kernel_rfl)) (fun _ _ _ h => h) (Or.inl ⟨by rfl, ?_⟩) ?_ ?_
    rotate_left
    · intro w'
      go_simp
      with_reducible rfl
    rotate_left
    · simp only [Act.put, List.setIfInBounds_toArray, List.set_cons_zero, List.set_cons_succ, i64_w, i32_w]
      rfl
    refine pure_ (i := 12) (N := some 41) (v := ?_) (a' := ?_) #[true, true, true, false, true, false, false, true, false, false, false, true, true, false, false, false, false, false, false, false, false, false, false, false, false, false, false, false, false, false, false] rfl rfl (any_of HT_.out (by kernel_rfl)) (fun _ _ _ h => h) (Or.inl ⟨by rfl, ?_⟩) ?_ ?_
    rotate_left
    · intro w'
      go_simp
      with_reducible rfl
    rotate_left
    · simp only [Act.put, List.setIfInBounds_toArray, List.set_cons_zero, List.set_cons_succ, i64_w, i32_w]
      rfl
    refine take_ (i := 13) (N := some 42) (v := ?_) (a' := ?_) #[true, true, true, false, true, false, false, true, false, false, false, true, true, true, false, false, false, false, false, false, false, false, false, false, false, false, false, false, false, false, false] rfl rfl (take_ofW HT_.out HW_.out (by kernel_rfl)) (fun _ _ _ h => h) (Or.inl ⟨by rfl, ?_⟩) hHeld ?_ ?_
    rotate_left
    · rintro w' ⟨s0, s1, s2, s3, s4⟩
      go_simp
      with_reducible rfl
    rotate_left
    · simp only [Act.put, List.setIfInBounds_toArray, List.set_cons_zero, List.set_cons_succ, i64_w, i32_w]
      rfl
    refine pure_ (i := 14) (N := some 43) (v := ?_) (a' := ?_) #[true, true, true, false, true, false, false, true, false, false, false, true, true, true, true, false, false, false, false, false, false, false, false, false, false, false, false, false, false, false, false] rfl rfl (any_of HT_.out (by kernel_rfl)) (fun _ _ _ h => h) (Or.inl ⟨by rfl, ?_⟩) ?_ ?_
    rotate_left
    · intro w'
      go_simp
      with_reducible rfl
    rotate_left
    · simp only [Act.put, List.setIfInBounds_toArray, List.set_cons_zero, List.set_cons_succ, i64_w, i32_w]
      rfl
    refine pure_ (i := 15) (N := some 44) (v := ?_) (a' := ?_) #[true, true, true, false, true, false, false, true, false, false, false, true, true, true, true, true, false, false, false, false, false, false, false, false, false, false, false, false, false, false, false] rfl rfl (any_of HT_.out (by kernel_rfl)) (fun _ _ _ h => h) (Or.inl ⟨by rfl, ?_⟩) ?_ ?_
    rotate_left
    · intro w'
      go_simp
      with_reducible rfl
    rotate_left
    · simp only [Act.put, List.setIfInBounds_toArray, List.set_cons_zero, List.set_cons_succ, i64_w, i32_w]
      rfl
    refine pure_ (i := 16) (N := some 45) (v := ?_) (a' := ?_) #[true, true, true, false, true, false, false, true, false, false, false, true, true, true, true, true, true, false, false, false, false, false, false, false, false, false, false, false, false, false, false] rfl rfl (any_of HT_.out (by kernel_rfl)) (fun _ _ _ h => h) (Or.inl ⟨by rfl, ?_⟩) ?_ ?_
    rotate_left
    · intro w'
      go_simp
      with_reducible rfl
    rotate_left
    · simp only [Act.put, List.setIfInBounds_toArray, List.set_cons_zero, List.set_cons_succ, i64_w, i32_w]
      rfl
    refine pure_ (i := 17) (N := some 46) (v := ?_) (a' := ?_) #[true, true, true, false, true, false, false, true, false, false, false, true, true, true, true, true, true, true, false, false, false, false, false, false, false, false, false, false, false, false, false] rfl rfl (any_of HT_.out (by kernel_rfl)) (fun _ _ _ h => h) (Or.inl ⟨by rfl, ?_⟩) ?_ ?_
    rotate_left
    · intro w'
      go_simp
      with_reducible rfl
    rotate_left
    · simp only [Act.put, List.setIfInBounds_toArray, List.set_cons_zero, List.set_cons_succ, i64_w, i32_w]
      rfl
    refine take_ (i := 18) (N := some 47) (v := ?_) (a' := ?_) #[true, true, true, false, true, false, false, true, false, false, false, true, true, true, true, true, true, true, true, false, false, false, false, false, false, false, false, false, false, false, false] rfl rfl (take_ofW HT_.out HW_.out (by kernel_rfl)) (fun _ _ _ h => h) (Or.inl ⟨by rfl, ?_⟩) hHeld ?_ ?_
    rotate_left
    · rintro w' ⟨s0, s1, s2, s3, s4⟩
      go_simp
      with_reducible rfl
    rotate_left
    · simp only [Act.put, List.setIfInBounds_toArray, List.set_cons_zero, List.set_cons_succ, i64_w, i32_w]
      rfl
    refine pure_ (i := 19) (N := some 48) (v := ?_) (a' := ?_) #[true, true, true, false, true, false, false, true, false, false, false, true, true, true, true, true, true, true, true, true, false, false, false, false, false, false, false, false, false, false, false] rfl rfl (any_of HT_.out (by kernel_rfl)) (fun _ _ _ h => h) (Or.inl ⟨by rfl, ?_⟩) ?_ ?_
    rotate_left
    · intro w'
      go_simp
      with_reducible rfl
    rotate_left
    · simp only [Act.put, List.setIfInBounds_toArray, List.set_cons_zero, List.set_cons_succ, i64_w, i32_w]
      rfl
    refine pure_ (i := 20) (N := some 49) (v := ?_) (a' := ?_) #[true, true, true, false, true, false, false, true, false, false, false, true, true, true, true, true, true, true, true, true, true, false, false, false, false, false, false, false, false, false, false] rfl rfl (any_of HT_.out (by kernel_rfl)) (fun _ _ _ h => h) (Or.inl ⟨by rfl, ?_⟩) ?_ ?_
    rotate_left
    · intro w'
      go_simp
      with_reducible rfl
    rotate_left
    · simp only [Act.put, List.setIfInBounds_toArray, List.set_cons_zero, List.set_cons_succ, i64_w, i32_w]
      rfl
    refine pure_ (i := 22) (N := some 51) (v := ?_) (a' := ?_) #[true, true, true, false, true, false, false, true, false, false, false, true, true, true, true, true, true, true, true, true, true, false, true, false, false, false, false, false, false, false, false] rfl rfl (any_of HT_.out (by kernel_rfl)) (fun _ _ _ h => h) (Or.inl ⟨by rfl, ?_⟩) ?_ ?_
    rotate_left
    · intro w'
      go_simp
      with_reducible rfl
    rotate_left
    · simp only [Act.put, List.setIfInBounds_toArray, List.set_cons_zero, List.set_cons_succ, i64_w, i32_w]
      rfl
    refine pure_ (i := 23) (N := some 52) (v := ?_) (a' := ?_) #[true, true, true, false, true, false, false, true, false, false, false, true, true, true, true, true, true, true, true, true, true, false, true, true, false, false, false, false, false, false, false] rfl rfl (any_of HT_.out (by kernel_rfl)) (fun _ _ _ h => h) (Or.inl ⟨by rfl, ?_⟩) ?_ ?_
    rotate_left
    · intro w'
      go_simp
      with_reducible rfl
    rotate_left
    · simp only [Act.put, List.setIfInBounds_toArray, List.set_cons_zero, List.set_cons_succ, i64_w, i32_w]
      rfl
    refine take_ (i := 24) (N := some 53) (v := ?_) (a' := ?_) #[true, true, true, false, true, false, false, true, false, false, false, true, true, true, true, true, true, true, true, true, true, false, true, true, true, false, false, false, false, false, false] rfl rfl (take_ofW HT_.out HW_.out (by kernel_rfl)) (fun _ _ _ h => h) (Or.inl ⟨by rfl, ?_⟩) hHeld ?_ ?_
    rotate_left
    · rintro w' ⟨s0, s1, s2, s3, s4⟩
      go_simp
      with_reducible rfl
    rotate_left
    · simp only [Act.put, List.setIfInBounds_toArray, List.set_cons_zero, List.set_cons_succ, i64_w, i32_w]
      rfl
    refine pure_ (i := 26) (N := some 55) (v := ?_) (a' := ?_) #[true, true, true, false, true, false, false, true, false, false, false, true, true, true, true, true, true, true, true, true, true, false, true, true, true, false, true, false, false, false, false] rfl rfl (any_of HT_.out (by kernel_rfl)) (fun _ _ _ h => h) (Or.inl ⟨by rfl, ?_⟩) ?_ ?_
    rotate_left
    · intro w'
      go_simp
      with_reducible rfl
    rotate_left
    · simp only [Act.put, List.setIfInBounds_toArray, List.set_cons_zero, List.set_cons_succ, i64_w, i32_w]
      rfl
    refine pure_ (i := 27) (N := some 56) (v := ?_) (a' := ?_) #[true, true, true, false, true, false, false, true, false, false, false, true, true, true, true, true, true, true, true, true, true, false, true, true, true, false, true, true, false, false, false] rfl rfl (any_of HT_.out (by kernel_rfl)) (fun _ _ _ h => h) (Or.inl ⟨by rfl, ?_⟩) ?_ ?_
    rotate_left
    · intro w'
      go_simp
      with_reducible rfl
    rotate_left
    · simp only [Act.put, List.setIfInBounds_toArray, List.set_cons_zero, List.set_cons_succ, i64_w, i32_w]
      rfl
    refine take_ (i := 28) (N := some 57) (v := ?_) (a' := ?_) #[true, true, true, false, true, false, false, true, false, false, false, true, true, true, true, true, true, true, true, true, true, false, true, true, true, false, true, true, true, false, false] rfl rfl (take_ofW HT_.out HW_.out (by kernel_rfl)) (fun _ _ _ h => h) (Or.inl ⟨by rfl, ?_⟩) hHeld ?_ ?_
    rotate_left
    · rintro w' ⟨s0, s1, s2, s3, s4⟩
      go_simp
      with_reducible rfl
    rotate_left
    · simp only [Act.put, List.setIfInBounds_toArray, List.set_cons_zero, List.set_cons_succ, i64_w, i32_w]
      rfl
    refine one_ (i := 3) (N := some 32) #[true, true, true, true, true, false, false, true, false, false, false, true, true, true, true, true, true, true, true, true, true, false, true, true, true, false, true, true, true, false, false] rfl rfl (one_of HT_.out (by kernel_rfl)) (by decide) (fun K hK => ?_)
    refine goes_ Try.func92 (by kernel_rfl) rfl #[.int .u32 (rd x 4), .int .u64 6] (by rfl) rfl rfl (by (try simp only [List.map_toArray, List.map_cons, List.map_nil]); first | done | rfl) ?_
    refine (rrotr_calls _ 6 W1 (by decide) (by decide)).mono ?_
    rintro e W2 ⟨rfl, hb2⟩
    refine ⟨_, rfl, ?_⟩
    have HD2 := Aside0.mk (HD.out.next hb2)
    refine hK.out _ _ ⟨pw_cell_below hb2 hHeld.1, pw_cell_below hb2 hHeld.2.1, pw_cell_below hb2 hHeld.2.2.1, pw_cell_below hb2 hHeld.2.2.2.1, pw_cell_below hb2 hHeld.2.2.2.2⟩ (fun hHeld => ?_)
    clear hK K
    refine norm_ (a' := ?_) ?_ ?_
    rotate_left
    · show Act.put _ (some 32) _ = _
      simp only [Act.put, List.setIfInBounds_toArray, List.set_cons_zero, List.set_cons_succ, i64_w, i32_w]
      rfl
    clear hb2 HD
    refine one_ (i := 5) (N := some 34) #[true, true, true, true, true, true, false, true, false, false, false, true, true, true, true, true, true, true, true, true, true, false, true, true, true, false, true, true, true, false, false] rfl rfl (one_of HT_.out (by kernel_rfl)) (by decide) (fun K hK => ?_)
    refine goes_ Try.func92 (by kernel_rfl) rfl #[.int .u32 (rd x 4), .int .u64 11] (by rfl) rfl rfl (by (try simp only [List.map_toArray, List.map_cons, List.map_nil]); first | done | rfl) ?_
    refine (rrotr_calls _ 11 W2 (by decide) (by decide)).mono ?_
    rintro e W3 ⟨rfl, hb3⟩
    refine ⟨_, rfl, ?_⟩
    have HD3 := Aside0.mk (HD2.out.next hb3)
    refine hK.out _ _ ⟨pw_cell_below hb3 hHeld.1, pw_cell_below hb3 hHeld.2.1, pw_cell_below hb3 hHeld.2.2.1, pw_cell_below hb3 hHeld.2.2.2.1, pw_cell_below hb3 hHeld.2.2.2.2⟩ (fun hHeld => ?_)
    clear hK K
    refine norm_ (a' := ?_) ?_ ?_
    rotate_left
    · show Act.put _ (some 34) _ = _
      simp only [Act.put, List.setIfInBounds_toArray, List.set_cons_zero, List.set_cons_succ, i64_w, i32_w]
      rfl
    clear hb3 HD2
    refine pure_ (i := 6) (N := some 35) (v := ?_) (a' := ?_) #[true, true, true, true, true, true, true, true, false, false, false, true, true, true, true, true, true, true, true, true, true, false, true, true, true, false, true, true, true, false, false] rfl rfl (any_of HT_.out (by kernel_rfl)) (fun _ _ _ h => h) (Or.inl ⟨by rfl, ?_⟩) ?_ ?_
    rotate_left
    · intro w'
      go_simp
      with_reducible rfl
    rotate_left
    · simp only [Act.put, List.setIfInBounds_toArray, List.set_cons_zero, List.set_cons_succ, i64_w, i32_w]
      rfl
    refine one_ (i := 8) (N := some 37) #[true, true, true, true, true, true, true, true, true, false, false, true, true, true, true, true, true, true, true, true, true, false, true, true, true, false, true, true, true, false, false] rfl rfl (one_of HT_.out (by kernel_rfl)) (by decide) (fun K hK => ?_)
    refine goes_ Try.func92 (by kernel_rfl) rfl #[.int .u32 (rd x 4), .int .u64 25] (by rfl) rfl rfl (by (try simp only [List.map_toArray, List.map_cons, List.map_nil]); first | done | rfl) ?_
    refine (rrotr_calls _ 25 W3 (by decide) (by decide)).mono ?_
    rintro e W4 ⟨rfl, hb4⟩
    refine ⟨_, rfl, ?_⟩
    have HD4 := Aside0.mk (HD3.out.next hb4)
    refine hK.out _ _ ⟨pw_cell_below hb4 hHeld.1, pw_cell_below hb4 hHeld.2.1, pw_cell_below hb4 hHeld.2.2.1, pw_cell_below hb4 hHeld.2.2.2.1, pw_cell_below hb4 hHeld.2.2.2.2⟩ (fun hHeld => ?_)
    clear hK K
    refine norm_ (a' := ?_) ?_ ?_
    rotate_left
    · show Act.put _ (some 37) _ = _
      simp only [Act.put, List.setIfInBounds_toArray, List.set_cons_zero, List.set_cons_succ, i64_w, i32_w]
      rfl
    clear hb4 HD3
    refine pure_ (i := 9) (N := some 38) (v := ?_) (a' := ?_) #[true, true, true, true, true, true, true, true, true, true, false, true, true, true, true, true, true, true, true, true, true, false, true, true, true, false, true, true, true, false, false] rfl rfl (any_of HT_.out (by kernel_rfl)) (fun _ _ _ h => h) (Or.inl ⟨by rfl, ?_⟩) ?_ ?_
    rotate_left
    · intro w'
      go_simp
      with_reducible rfl
    rotate_left
    · simp only [Act.put, List.setIfInBounds_toArray, List.set_cons_zero, List.set_cons_succ, i64_w, i32_w]
      rfl
    refine pure_ (i := 10) (N := some 39) (v := ?_) (a' := ?_) #[true, true, true, true, true, true, true, true, true, true, true, true, true, true, true, true, true, true, true, true, true, false, true, true, true, false, true, true, true, false, false] rfl rfl (any_of HT_.out (by kernel_rfl)) (fun _ _ _ h => h) (Or.inl ⟨by rfl, ?_⟩) ?_ ?_
    rotate_left
    · intro w'
      go_simp
      with_reducible rfl
    rotate_left
    · simp only [Act.put, List.setIfInBounds_toArray, List.set_cons_zero, List.set_cons_succ, i64_w, i32_w]
      rfl
    refine pure_ (i := 21) (N := some 50) (v := ?_) (a' := ?_) #[true, true, true, true, true, true, true, true, true, true, true, true, true, true, true, true, true, true, true, true, true, true, true, true, true, false, true, true, true, false, false] rfl rfl (any_of HT_.out (by kernel_rfl)) (fun _ _ _ h => h) (Or.inl ⟨by rfl, ?_⟩) ?_ ?_
    rotate_left
    · intro w'
      go_simp
      with_reducible rfl
    rotate_left
    · simp only [Act.put, List.setIfInBounds_toArray, List.set_cons_zero, List.set_cons_succ, i64_w, i32_w]
      rfl
    refine pure_ (i := 25) (N := some 54) (v := ?_) (a' := ?_) #[true, true, true, true, true, true, true, true, true, true, true, true, true, true, true, true, true, true, true, true, true, true, true, true, true, true, true, true, true, false, false] rfl rfl (any_of HT_.out (by kernel_rfl)) (fun _ _ _ h => h) (Or.inl ⟨by rfl, ?_⟩) ?_ ?_
    rotate_left
    · intro w'
      go_simp
      with_reducible rfl
    rotate_left
    · simp only [Act.put, List.setIfInBounds_toArray, List.set_cons_zero, List.set_cons_succ, i64_w, i32_w]
      rfl
    refine pure_ (i := 29) (N := some 58) (v := ?_) (a' := ?_) #[true, true, true, true, true, true, true, true, true, true, true, true, true, true, true, true, true, true, true, true, true, true, true, true, true, true, true, true, true, true, false] rfl rfl (any_of HT_.out (by kernel_rfl)) (fun _ _ _ h => h) (Or.inl ⟨by rfl, ?_⟩) ?_ ?_
    rotate_left
    · intro w'
      go_simp
      with_reducible rfl
    rotate_left
    · simp only [Act.put, List.setIfInBounds_toArray, List.set_cons_zero, List.set_cons_succ, i64_w, i32_w]
      rfl
    refine pure_ (i := 30) (N := some 13) (v := ?_) (a' := ?_) #[true, true, true, true, true, true, true, true, true, true, true, true, true, true, true, true, true, true, true, true, true, true, true, true, true, true, true, true, true, true, true] rfl rfl (any_of HT_.out (by kernel_rfl)) (fun _ _ _ h => h) (Or.inl ⟨by rfl, ?_⟩) ?_ ?_
    rotate_left
    · intro w'
      go_simp
      with_reducible rfl
    rotate_left
    · simp only [Act.put, List.setIfInBounds_toArray, List.set_cons_zero, List.set_cons_succ, i64_w, i32_w]
      rfl
    refine done_ (done_of HT_.out (by kernel_rfl)) ?_
    clear hHeld HX X5 X6 X7 K8 K7
    have HX := HD4
    clear HD4
    go_wp2_with fail
    have x1 : W4.cell? ⟨g9, 1, none⟩ = some (.int .u32 (rd x 1)) := HX.out.at9 1 (by rw [HXL.out]; omega)
    have X1 := Aside0.mk x1
    clear x1
    have x2 : W4.cell? ⟨g9, 2, none⟩ = some (.int .u32 (rd x 2)) := HX.out.at9 2 (by rw [HXL.out]; omega)
    have X2 := Aside0.mk x2
    clear x2
    have HD := Aside0.mk HX.out.drew
    refine start_ (n := 25) (S := fun w' => w'.cell? ⟨g9, 1, none⟩ = some (.int .u32 (rd x 1)) ∧ w'.cell? ⟨g9, 2, none⟩ = some (.int .u32 (rd x 2))) (ds := []) #[false, false, false, false, false, false, false, false, false, false, false, false, false, false, false, false, false, false, false, false, false, false, false, false, false] (by kernel_rfl) rfl rfl ⟨X1.out, X2.out⟩ (fun hHeld => ?_)
    refine with_tabW r66_10_tab r66_10_bits (fun HT_ HW_ => ?_)
    generalize World.drew W4 = W5 at HD hHeld ⊢
    refine pure_ (i := 0) (N := some 59) (v := ?_) (a' := ?_) #[true, false, false, false, false, false, false, false, false, false, false, false, false, false, false, false, false, false, false, false, false, false, false, false, false] rfl rfl (any_of HT_.out (by kernel_rfl)) (fun _ _ _ h => h) (Or.inl ⟨by rfl, ?_⟩) ?_ ?_
    rotate_left
    · intro w'
      go_simp
      with_reducible rfl
    rotate_left
    · simp only [Act.put, List.setIfInBounds_toArray, List.set_cons_zero, List.set_cons_succ, i64_w, i32_w]
      rfl
    refine pure_ (i := 2) (N := some 61) (v := ?_) (a' := ?_) #[true, false, true, false, false, false, false, false, false, false, false, false, false, false, false, false, false, false, false, false, false, false, false, false, false] rfl rfl (any_of HT_.out (by kernel_rfl)) (fun _ _ _ h => h) (Or.inl ⟨by rfl, ?_⟩) ?_ ?_
    rotate_left
    · intro w'
      go_simp
      with_reducible rfl
    rotate_left
    · simp only [Act.put, List.setIfInBounds_toArray, List.set_cons_zero, List.set_cons_succ, i64_w, i32_w]
      rfl
    refine pure_ (i := 5) (N := some 64) (v := ?_) (a' := ?_) #[true, false, true, false, false, true, false, false, false, false, false, false, false, false, false, false, false, false, false, false, false, false, false, false, false] rfl rfl (any_of HT_.out (by kernel_rfl)) (fun _ _ _ h => h) (Or.inl ⟨by rfl, ?_⟩) ?_ ?_
    rotate_left
    · intro w'
      go_simp
      with_reducible rfl
    rotate_left
    · simp only [Act.put, List.setIfInBounds_toArray, List.set_cons_zero, List.set_cons_succ, i64_w, i32_w]
      rfl
    refine pure_ (i := 8) (N := some 67) (v := ?_) (a' := ?_) #[true, false, true, false, false, true, false, false, true, false, false, false, false, false, false, false, false, false, false, false, false, false, false, false, false] rfl rfl (any_of HT_.out (by kernel_rfl)) (fun _ _ _ h => h) (Or.inl ⟨by rfl, ?_⟩) ?_ ?_
    rotate_left
    · intro w'
      go_simp
      with_reducible rfl
    rotate_left
    · simp only [Act.put, List.setIfInBounds_toArray, List.set_cons_zero, List.set_cons_succ, i64_w, i32_w]
      rfl
    refine pure_ (i := 9) (N := some 68) (v := ?_) (a' := ?_) #[true, false, true, false, false, true, false, false, true, true, false, false, false, false, false, false, false, false, false, false, false, false, false, false, false] rfl rfl (any_of HT_.out (by kernel_rfl)) (fun _ _ _ h => h) (Or.inl ⟨by rfl, ?_⟩) ?_ ?_
    rotate_left
    · intro w'
      go_simp
      with_reducible rfl
    rotate_left
    · simp only [Act.put, List.setIfInBounds_toArray, List.set_cons_zero, List.set_cons_succ, i64_w, i32_w]
      rfl
    refine take_ (i := 10) (N := some 69) (v := ?_) (a' := ?_) #[true, false, true, false, false, true, false, false, true, true, true, false, false, false, false, false, false, false, false, false, false, false, false, false, false] rfl rfl (take_ofW HT_.out HW_.out (by kernel_rfl)) (fun _ _ _ h => h) (Or.inl ⟨by rfl, ?_⟩) hHeld ?_ ?_
    rotate_left
    · rintro w' ⟨s0, s1⟩
      go_simp
      with_reducible rfl
    rotate_left
    · simp only [Act.put, List.setIfInBounds_toArray, List.set_cons_zero, List.set_cons_succ, i64_w, i32_w]
      rfl
    refine pure_ (i := 11) (N := some 70) (v := ?_) (a' := ?_) #[true, false, true, false, false, true, false, false, true, true, true, true, false, false, false, false, false, false, false, false, false, false, false, false, false] rfl rfl (any_of HT_.out (by kernel_rfl)) (fun _ _ _ h => h) (Or.inl ⟨by rfl, ?_⟩) ?_ ?_
    rotate_left
    · intro w'
      go_simp
      with_reducible rfl
    rotate_left
    · simp only [Act.put, List.setIfInBounds_toArray, List.set_cons_zero, List.set_cons_succ, i64_w, i32_w]
      rfl
    refine pure_ (i := 12) (N := some 71) (v := ?_) (a' := ?_) #[true, false, true, false, false, true, false, false, true, true, true, true, true, false, false, false, false, false, false, false, false, false, false, false, false] rfl rfl (any_of HT_.out (by kernel_rfl)) (fun _ _ _ h => h) (Or.inl ⟨by rfl, ?_⟩) ?_ ?_
    rotate_left
    · intro w'
      go_simp
      with_reducible rfl
    rotate_left
    · simp only [Act.put, List.setIfInBounds_toArray, List.set_cons_zero, List.set_cons_succ, i64_w, i32_w]
      rfl
    refine pure_ (i := 13) (N := some 72) (v := ?_) (a' := ?_) #[true, false, true, false, false, true, false, false, true, true, true, true, true, true, false, false, false, false, false, false, false, false, false, false, false] rfl rfl (any_of HT_.out (by kernel_rfl)) (fun _ _ _ h => h) (Or.inl ⟨by rfl, ?_⟩) ?_ ?_
    rotate_left
    · intro w'
      go_simp
      with_reducible rfl
    rotate_left
    · simp only [Act.put, List.setIfInBounds_toArray, List.set_cons_zero, List.set_cons_succ, i64_w, i32_w]
      rfl
    refine take_ (i := 14) (N := some 73) (v := ?_) (a' := ?_) #[true, false, true, false, false, true, false, false, true, true, true, true, true, true, true, false, false, false, false, false, false, false, false, false, false] rfl rfl (take_ofW HT_.out HW_.out (by kernel_rfl)) (fun _ _ _ h => h) (Or.inl ⟨by rfl, ?_⟩) hHeld ?_ ?_
    rotate_left
    · rintro w' ⟨s0, s1⟩
      go_simp
      with_reducible rfl
    rotate_left
    · simp only [Act.put, List.setIfInBounds_toArray, List.set_cons_zero, List.set_cons_succ, i64_w, i32_w]
      rfl
    refine pure_ (i := 15) (N := some 74) (v := ?_) (a' := ?_) #[true, false, true, false, false, true, false, false, true, true, true, true, true, true, true, true, false, false, false, false, false, false, false, false, false] rfl rfl (any_of HT_.out (by kernel_rfl)) (fun _ _ _ h => h) (Or.inl ⟨by rfl, ?_⟩) ?_ ?_
    rotate_left
    · intro w'
      go_simp
      with_reducible rfl
    rotate_left
    · simp only [Act.put, List.setIfInBounds_toArray, List.set_cons_zero, List.set_cons_succ, i64_w, i32_w]
      rfl
    refine pure_ (i := 16) (N := some 75) (v := ?_) (a' := ?_) #[true, false, true, false, false, true, false, false, true, true, true, true, true, true, true, true, true, false, false, false, false, false, false, false, false] rfl rfl (any_of HT_.out (by kernel_rfl)) (fun _ _ _ h => h) (Or.inl ⟨by rfl, ?_⟩) ?_ ?_
    rotate_left
    · intro w'
      go_simp
      with_reducible rfl
    rotate_left
    · simp only [Act.put, List.setIfInBounds_toArray, List.set_cons_zero, List.set_cons_succ, i64_w, i32_w]
      rfl
    refine pure_ (i := 17) (N := some 76) (v := ?_) (a' := ?_) #[true, false, true, false, false, true, false, false, true, true, true, true, true, true, true, true, true, true, false, false, false, false, false, false, false] rfl rfl (any_of HT_.out (by kernel_rfl)) (fun _ _ _ h => h) (Or.inl ⟨by rfl, ?_⟩) ?_ ?_
    rotate_left
    · intro w'
      go_simp
      with_reducible rfl
    rotate_left
    · simp only [Act.put, List.setIfInBounds_toArray, List.set_cons_zero, List.set_cons_succ, i64_w, i32_w]
      rfl
    refine take_ (i := 18) (N := some 77) (v := ?_) (a' := ?_) #[true, false, true, false, false, true, false, false, true, true, true, true, true, true, true, true, true, true, true, false, false, false, false, false, false] rfl rfl (take_ofW HT_.out HW_.out (by kernel_rfl)) (fun _ _ _ h => h) (Or.inl ⟨by rfl, ?_⟩) hHeld ?_ ?_
    rotate_left
    · rintro w' ⟨s0, s1⟩
      go_simp
      with_reducible rfl
    rotate_left
    · simp only [Act.put, List.setIfInBounds_toArray, List.set_cons_zero, List.set_cons_succ, i64_w, i32_w]
      rfl
    refine pure_ (i := 19) (N := some 78) (v := ?_) (a' := ?_) #[true, false, true, false, false, true, false, false, true, true, true, true, true, true, true, true, true, true, true, true, false, false, false, false, false] rfl rfl (any_of HT_.out (by kernel_rfl)) (fun _ _ _ h => h) (Or.inl ⟨by rfl, ?_⟩) ?_ ?_
    rotate_left
    · intro w'
      go_simp
      with_reducible rfl
    rotate_left
    · simp only [Act.put, List.setIfInBounds_toArray, List.set_cons_zero, List.set_cons_succ, i64_w, i32_w]
      rfl
    refine take_ (i := 20) (N := some 79) (v := ?_) (a' := ?_) #[true, false, true, false, false, true, false, false, true, true, true, true, true, true, true, true, true, true, true, true, true, false, false, false, false] rfl rfl (take_ofW HT_.out HW_.out (by kernel_rfl)) (fun _ _ _ h => h) (Or.inl ⟨by rfl, ?_⟩) hHeld ?_ ?_
    rotate_left
    · rintro w' ⟨s0, s1⟩
      go_simp
      with_reducible rfl
    rotate_left
    · simp only [Act.put, List.setIfInBounds_toArray, List.set_cons_zero, List.set_cons_succ, i64_w, i32_w]
      rfl
    refine pure_ (i := 21) (N := some 80) (v := ?_) (a' := ?_) #[true, false, true, false, false, true, false, false, true, true, true, true, true, true, true, true, true, true, true, true, true, true, false, false, false] rfl rfl (any_of HT_.out (by kernel_rfl)) (fun _ _ _ h => h) (Or.inl ⟨by rfl, ?_⟩) ?_ ?_
    rotate_left
    · intro w'
      go_simp
      with_reducible rfl
    rotate_left
    · simp only [Act.put, List.setIfInBounds_toArray, List.set_cons_zero, List.set_cons_succ, i64_w, i32_w]
      rfl
    refine pure_ (i := 22) (N := some 81) (v := ?_) (a' := ?_) #[true, false, true, false, false, true, false, false, true, true, true, true, true, true, true, true, true, true, true, true, true, true, true, false, false] rfl rfl (any_of HT_.out (by kernel_rfl)) (fun _ _ _ h => h) (Or.inl ⟨by rfl, ?_⟩) ?_ ?_
    rotate_left
    · intro w'
      go_simp
      with_reducible rfl
    rotate_left
    · simp only [Act.put, List.setIfInBounds_toArray, List.set_cons_zero, List.set_cons_succ, i64_w, i32_w]
      rfl
    refine one_ (i := 1) (N := some 60) #[true, true, true, false, false, true, false, false, true, true, true, true, true, true, true, true, true, true, true, true, true, true, true, false, false] rfl rfl (one_of HT_.out (by kernel_rfl)) (by decide) (fun K hK => ?_)
    refine goes_ Try.func92 (by kernel_rfl) rfl #[.int .u32 (rd x 0), .int .u64 2] (by rfl) rfl rfl (by (try simp only [List.map_toArray, List.map_cons, List.map_nil]); first | done | rfl) ?_
    refine (rrotr_calls _ 2 W5 (by decide) (by decide)).mono ?_
    rintro e W6 ⟨rfl, hb6⟩
    refine ⟨_, rfl, ?_⟩
    have HD6 := Aside0.mk (HD.out.next hb6)
    refine hK.out _ _ ⟨pw_cell_below hb6 hHeld.1, pw_cell_below hb6 hHeld.2⟩ (fun hHeld => ?_)
    clear hK K
    refine norm_ (a' := ?_) ?_ ?_
    rotate_left
    · show Act.put _ (some 60) _ = _
      simp only [Act.put, List.setIfInBounds_toArray, List.set_cons_zero, List.set_cons_succ, i64_w, i32_w]
      rfl
    clear hb6 HD
    refine one_ (i := 3) (N := some 62) #[true, true, true, true, false, true, false, false, true, true, true, true, true, true, true, true, true, true, true, true, true, true, true, false, false] rfl rfl (one_of HT_.out (by kernel_rfl)) (by decide) (fun K hK => ?_)
    refine goes_ Try.func92 (by kernel_rfl) rfl #[.int .u32 (rd x 0), .int .u64 13] (by rfl) rfl rfl (by (try simp only [List.map_toArray, List.map_cons, List.map_nil]); first | done | rfl) ?_
    refine (rrotr_calls _ 13 W6 (by decide) (by decide)).mono ?_
    rintro e W7 ⟨rfl, hb7⟩
    refine ⟨_, rfl, ?_⟩
    have HD7 := Aside0.mk (HD6.out.next hb7)
    refine hK.out _ _ ⟨pw_cell_below hb7 hHeld.1, pw_cell_below hb7 hHeld.2⟩ (fun hHeld => ?_)
    clear hK K
    refine norm_ (a' := ?_) ?_ ?_
    rotate_left
    · show Act.put _ (some 62) _ = _
      simp only [Act.put, List.setIfInBounds_toArray, List.set_cons_zero, List.set_cons_succ, i64_w, i32_w]
      rfl
    clear hb7 HD6
    refine pure_ (i := 4) (N := some 63) (v := ?_) (a' := ?_) #[true, true, true, true, true, true, false, false, true, true, true, true, true, true, true, true, true, true, true, true, true, true, true, false, false] rfl rfl (any_of HT_.out (by kernel_rfl)) (fun _ _ _ h => h) (Or.inl ⟨by rfl, ?_⟩) ?_ ?_
    rotate_left
    · intro w'
      go_simp
      with_reducible rfl
    rotate_left
    · simp only [Act.put, List.setIfInBounds_toArray, List.set_cons_zero, List.set_cons_succ, i64_w, i32_w]
      rfl
    refine one_ (i := 6) (N := some 65) #[true, true, true, true, true, true, true, false, true, true, true, true, true, true, true, true, true, true, true, true, true, true, true, false, false] rfl rfl (one_of HT_.out (by kernel_rfl)) (by decide) (fun K hK => ?_)
    refine goes_ Try.func92 (by kernel_rfl) rfl #[.int .u32 (rd x 0), .int .u64 22] (by rfl) rfl rfl (by (try simp only [List.map_toArray, List.map_cons, List.map_nil]); first | done | rfl) ?_
    refine (rrotr_calls _ 22 W7 (by decide) (by decide)).mono ?_
    rintro e W8 ⟨rfl, hb8⟩
    refine ⟨_, rfl, ?_⟩
    have HD8 := Aside0.mk (HD7.out.next hb8)
    refine hK.out _ _ ⟨pw_cell_below hb8 hHeld.1, pw_cell_below hb8 hHeld.2⟩ (fun hHeld => ?_)
    clear hK K
    refine norm_ (a' := ?_) ?_ ?_
    rotate_left
    · show Act.put _ (some 65) _ = _
      simp only [Act.put, List.setIfInBounds_toArray, List.set_cons_zero, List.set_cons_succ, i64_w, i32_w]
      rfl
    clear hb8 HD7
    refine pure_ (i := 7) (N := some 66) (v := ?_) (a' := ?_) #[true, true, true, true, true, true, true, true, true, true, true, true, true, true, true, true, true, true, true, true, true, true, true, false, false] rfl rfl (any_of HT_.out (by kernel_rfl)) (fun _ _ _ h => h) (Or.inl ⟨by rfl, ?_⟩) ?_ ?_
    rotate_left
    · intro w'
      go_simp
      with_reducible rfl
    rotate_left
    · simp only [Act.put, List.setIfInBounds_toArray, List.set_cons_zero, List.set_cons_succ, i64_w, i32_w]
      rfl
    refine pure_ (i := 23) (N := some 82) (v := ?_) (a' := ?_) #[true, true, true, true, true, true, true, true, true, true, true, true, true, true, true, true, true, true, true, true, true, true, true, true, false] rfl rfl (any_of HT_.out (by kernel_rfl)) (fun _ _ _ h => h) (Or.inl ⟨by rfl, ?_⟩) ?_ ?_
    rotate_left
    · intro w'
      go_simp
      with_reducible rfl
    rotate_left
    · simp only [Act.put, List.setIfInBounds_toArray, List.set_cons_zero, List.set_cons_succ, i64_w, i32_w]
      rfl
    refine pure_ (i := 24) (N := some 14) (v := ?_) (a' := ?_) #[true, true, true, true, true, true, true, true, true, true, true, true, true, true, true, true, true, true, true, true, true, true, true, true, true] rfl rfl (any_of HT_.out (by kernel_rfl)) (fun _ _ _ h => h) (Or.inl ⟨by rfl, ?_⟩) ?_ ?_
    rotate_left
    · intro w'
      go_simp
      with_reducible rfl
    rotate_left
    · simp only [Act.put, List.setIfInBounds_toArray, List.set_cons_zero, List.set_cons_succ, i64_w, i32_w]
      rfl
    refine done_ (done_of HT_.out (by kernel_rfl)) ?_
    clear hHeld HX X1 X2
    have HX := HD8
    clear HD8
    have x1 : W8.cell? ⟨g9, 1, none⟩ = some (.int .u32 (rd x 1)) := HX.out.at9 1 (by rw [HXL.out]; omega)
    have x2 : W8.cell? ⟨g9, 2, none⟩ = some (.int .u32 (rd x 2)) := HX.out.at9 2 (by rw [HXL.out]; omega)
    have x3 : W8.cell? ⟨g9, 3, none⟩ = some (.int .u32 (rd x 3)) := HX.out.at9 3 (by rw [HXL.out]; omega)
    have x5 : W8.cell? ⟨g9, 5, none⟩ = some (.int .u32 (rd x 5)) := HX.out.at9 5 (by rw [HXL.out]; omega)
    have x6 : W8.cell? ⟨g9, 6, none⟩ = some (.int .u32 (rd x 6)) := HX.out.at9 6 (by rw [HXL.out]; omega)
    go_wp2_with ((with_reducible refine gate_store (t := 97) (p := 9) rfl ?_); refine put_row rfl rfl rfl (g := g9) (u32s [_, _, _, _, _, _, _, _]) rfl rfl HX.out.b9 info97 (by rw [size_u32s, HXL.out]; rfl) (all_one _ _) ?_; intro W9 h1 h2; have HR := Aside0.mk h1; have HWr := Aside0.mk h2; clear h1 h2)
    have HY : Aside0 (BK w W9 g3 g6 g7 g8 g9 v ws (rounds ws v (t + 1))) := ⟨by
      rw [HRN.out]
      refine HX.out.wrote ?_ HWr.out
      rw [HR.out]
      congr 3
      unfold rndL rnd t1 t2
      simp only [List.cons.injEq, and_true, true_and, no_eq, xo, an]
      refine ⟨by omega, by omega⟩⟩
    clear HX HR HWr x1 x2 x3 x5 x6
    go_roundw
    case rel => exact ⟨t + 1, by omega, by go_num, HY⟩
    case measure => simp [intOf]; omega
  obtain rfl : t = 64 := by omega
  clear hlt ht
  go_wp2_with fail
  rw [show ((64 : Nat) : Int) = 64 from rfl]
  have HZL : Aside0 ((rounds ws v 64).length = 8) := ⟨rounds_length _ _ HV.out 64⟩
  have HCM : Aside0 (sums v (rounds ws v 64) 8 = comp v ((p.drop i).take 64)) := ⟨by rw [sums_comm _ _ HV.out HZL.out, comp, HWS.out]⟩
  generalize rounds ws v 64 = x at HX HZL HCM
  generalize wr = wb at *
  have H0 : Aside0 (BK w wb g3 g6 g7 g8 g9 (sums v x 0) ws x) := HX
  clear HX
  go_loopw [15] (fun v15 wi => ∃ (t : Nat), t ≤ 8 ∧ v15 = .int .i64 t ∧ Aside0 (BK w wi g3 g6 g7 g8 g9 (sums v x t) ws x)) (fun v15 _ => 8 - (intOf v15).toNat)
  case atStart => exact ⟨0, by omega, rfl, H0⟩
  case round =>
  clear H0
  obtain ⟨t, ht, rfl, HX⟩ := hrel
  have HRL : Aside0 ((sums v x t).length = 8) := ⟨by rw [sums_length]; exact HV.out⟩
  by_cases hlt : t < 8
  · go_wp2_with fail
    have r0 : ((t : Int) < 8) = True := by simp; omega
    have HD := Aside0.mk HX.out.drew
    have HK := Aside0.mk ((blk_cell HX.out.b3 t).trans (u32s_at (sums v x t) t (by rw [HRL.out]; exact hlt)))
    have HM := Aside0.mk ((blk_cell HX.out.b9 t).trans (u32s_at x t (by rw [HZL.out]; exact hlt)))
    refine start_ (n := 10) (S := fun w' => w'.cell? ⟨g3, t, none⟩ = some (.int .u32 (rd (sums v x t) (t : Int))) ∧ w'.cell? ⟨g9, t, none⟩ = some (.int .u32 (rd x (t : Int)))) (ds := [9]) #[false, false, false, false, false, false, false, false, false, false] (by kernel_rfl) rfl rfl ⟨HK.out, HM.out⟩ (fun hHeld => ?_)
    refine with_tabW r66_15_tab r66_15_bits (fun HT_ HW_ => ?_)
    generalize World.drew wr = W1 at HD hHeld ⊢
    refine pure_ (i := 0) (N := some 105) (v := ?_) (a' := ?_) #[true, false, false, false, false, false, false, false, false, false] rfl rfl (any_of HT_.out (by kernel_rfl)) (fun _ _ _ h => h) (Or.inl ⟨by rfl, ?_⟩) ?_ ?_
    rotate_left
    · intro w'
      go_simp
      with_reducible rfl
    rotate_left
    · simp only [Act.put, List.setIfInBounds_toArray, List.set_cons_zero, List.set_cons_succ, i64_w, i32_w]
      rfl
    refine pure_ (i := 1) (N := some 106) (v := ?_) (a' := ?_) #[true, true, false, false, false, false, false, false, false, false] rfl rfl (any_of HT_.out (by kernel_rfl)) (fun _ _ _ h => h) (Or.inl ⟨by rfl, ?_⟩) ?_ ?_
    rotate_left
    · intro w'
      go_simp
      with_reducible rfl
    rotate_left
    · simp only [Act.put, List.setIfInBounds_toArray, List.set_cons_zero, List.set_cons_succ, i64_w, i32_w]
      rfl
    refine pure_ (i := 2) (N := some 107) (v := ?_) (a' := ?_) #[true, true, true, false, false, false, false, false, false, false] rfl rfl (any_of HT_.out (by kernel_rfl)) (fun _ _ _ h => h) (Or.inl ⟨by rfl, ?_⟩) ?_ ?_
    rotate_left
    · intro w'
      go_simp
      with_reducible rfl
    rotate_left
    · simp only [Act.put, List.setIfInBounds_toArray, List.set_cons_zero, List.set_cons_succ, i64_w, i32_w]
      rfl
    refine take_ (i := 3) (N := some 108) (v := ?_) (a' := ?_) #[true, true, true, true, false, false, false, false, false, false] rfl rfl (take_ofW HT_.out HW_.out (by kernel_rfl)) (fun _ _ _ h => h) (Or.inl ⟨by rfl, ?_⟩) hHeld ?_ ?_
    rotate_left
    · rintro w' ⟨s0, s1⟩
      go_simp
      with_reducible rfl
    rotate_left
    · simp only [Act.put, List.setIfInBounds_toArray, List.set_cons_zero, List.set_cons_succ, i64_w, i32_w]
      rfl
    refine pure_ (i := 4) (N := some 109) (v := ?_) (a' := ?_) #[true, true, true, true, true, false, false, false, false, false] rfl rfl (any_of HT_.out (by kernel_rfl)) (fun _ _ _ h => h) (Or.inl ⟨by rfl, ?_⟩) ?_ ?_
    rotate_left
    · intro w'
      go_simp
      with_reducible rfl
    rotate_left
    · simp only [Act.put, List.setIfInBounds_toArray, List.set_cons_zero, List.set_cons_succ, i64_w, i32_w]
      rfl
    refine pure_ (i := 5) (N := some 110) (v := ?_) (a' := ?_) #[true, true, true, true, true, true, false, false, false, false] rfl rfl (any_of HT_.out (by kernel_rfl)) (fun _ _ _ h => h) (Or.inl ⟨by rfl, ?_⟩) ?_ ?_
    rotate_left
    · intro w'
      go_simp
      with_reducible rfl
    rotate_left
    · simp only [Act.put, List.setIfInBounds_toArray, List.set_cons_zero, List.set_cons_succ, i64_w, i32_w]
      rfl
    refine take_ (i := 6) (N := some 111) (v := ?_) (a' := ?_) #[true, true, true, true, true, true, true, false, false, false] rfl rfl (take_ofW HT_.out HW_.out (by kernel_rfl)) (fun _ _ _ h => h) (Or.inl ⟨by rfl, ?_⟩) hHeld ?_ ?_
    rotate_left
    · rintro w' ⟨s0, s1⟩
      go_simp
      with_reducible rfl
    rotate_left
    · simp only [Act.put, List.setIfInBounds_toArray, List.set_cons_zero, List.set_cons_succ, i64_w, i32_w]
      rfl
    refine pure_ (i := 7) (N := some 112) (v := ?_) (a' := ?_) #[true, true, true, true, true, true, true, true, false, false] rfl rfl (any_of HT_.out (by kernel_rfl)) (fun _ _ _ h => h) (Or.inl ⟨by rfl, ?_⟩) ?_ ?_
    rotate_left
    · intro w'
      go_simp
      with_reducible rfl
    rotate_left
    · simp only [Act.put, List.setIfInBounds_toArray, List.set_cons_zero, List.set_cons_succ, i64_w, i32_w]
      rfl
    refine pure_ (i := 8) (N := some 113) (v := ?_) (a' := ?_) #[true, true, true, true, true, true, true, true, true, false] rfl rfl (any_of HT_.out (by kernel_rfl)) (fun _ _ _ h => h) (Or.inl ⟨by rfl, ?_⟩) ?_ ?_
    rotate_left
    · intro w'
      go_simp
      with_reducible rfl
    rotate_left
    · simp only [Act.put, List.setIfInBounds_toArray, List.set_cons_zero, List.set_cons_succ, i64_w, i32_w]
      rfl
    refine last_ (i := 9) (N := none) #[true, true, true, true, true, true, true, true, true, true] rfl rfl (one_of HT_.out (by kernel_rfl)) (by decide) (fun K hK => ?_)
    have e5 := (blk_cell HD.out.b3 t).trans (u32s_at (sums v x t) t (by rw [HRL.out]; exact hlt))
    have f5 := blk_frozen HD.out.b3 t
    refine skip_ (w1 := ?_) (by rfl) rfl ?_ ?_
    rotate_left
    · go_simp
      rfl
    refine hK.out _ _ ?_
    clear hK K
    refine done_ (done_of HT_.out (by kernel_rfl)) ?_
    replace HD := Aside0.mk (HD.out.put t ((rd (sums v x t) (t : Int) + rd x (t : Int)) % 4294967296))
    clear e5 f5 HX hHeld HK HM
    go_wp2_with fail
    go_roundw
    case rel => exact ⟨t + 1, by omega, by go_num, HD⟩
    case measure => simp [intOf]; omega
  obtain rfl : t = 8 := by omega
  clear hlt ht
  go_wp2_with (first
    | ((with_reducible refine gate_dst (N := 114) rfl ?_); refine get_row rfl rfl rfl HX.out.b3 Try.underlying97 rfl (info97.trans (by rw [size_u32s, HRL.out])) rfl ?_)
    | ((with_reducible refine gate_store (t := 97) (p := 6) rfl ?_); refine put_row rfl rfl rfl (g := g6) (u32s (sums v x 8)) rfl rfl HX.out.b6 (info97.trans (by rw [size_u32s, HRL.out])) (by rw [size_u32s, size_u32s, HRL.out]; rfl) (all_one _ _) ?_; intro w20 h1 h2; have HR := Aside0.mk h1; have HWr := Aside0.mk h2; clear h1 h2))
  refine bodyPost_ret (results_cell_row rfl _ _ g6 97 _ (0, 0) _ rfl HR.out Try.underlying97 rfl (info97.trans (by rw [size_u32s, HRL.out]))) rfl ?_
  refine ⟨?_, HWr.out.below HX.out.below HX.out.l6⟩
  rw [HCM.out]
end Go.Proofs.Ytcgajjaaiablkaa.ShaRefB
