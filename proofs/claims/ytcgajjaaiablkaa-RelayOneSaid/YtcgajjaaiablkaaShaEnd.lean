/- digest: the digest, were these all bytes. -/
import Derived.Test.YtcgajjaaiablkaaShaWrite
namespace Go.Proofs.Ytcgajjaaiablkaa.ShaEnd
open Go.RowKit Go.Proofs.YtcgajjaaiablkaaW.PrintWords Go.Proofs.YtcgajjaaiablkaaW.PrintLast Go.Proofs.YtcgajjaaiablkaaW.PrintMore
open Go.Proofs.Ytcgajjaaiablkaa.PRelaySealed Go.Proofs.Ytcgajjaaiablkaa.ShaP Go.Proofs.Ytcgajjaaiablkaa.ShaM Go.Proofs.Ytcgajjaaiablkaa.ShaRound Go.Proofs.Ytcgajjaaiablkaa.ShaBehind Go.Proofs.Ytcgajjaaiablkaa.ShaWrite
set_option linter.unusedVariables false
set_option linter.unusedSimpArgs false

/-- How many zeros the padding of n bytes has. -/
def padN (n : Nat) : Nat := (119 - n % 64) % 64
def lb (n : Nat) : Nat → List Int
  | 0 => []
  | i + 1 => lb n i ++ [(n : Int) * 8 / 2 ^ (56 - 8 * i) % 256]
def padZ (n z : Nat) : List Int := 128 :: List.replicate z 0
def padOf (n : Nat) : List Int := padZ n (padN n) ++ lb n 8
theorem lb_length (n : Nat) : ∀ i, (lb n i).length = i
  | 0 => rfl
  | i + 1 => by rw [lb, List.length_append, lb_length n i]; rfl
theorem padOf_length (n : Nat) : (padOf n).length = padN n + 9 := by
  unfold padOf padZ
  rw [List.length_append, lb_length, List.length_cons, List.length_replicate]
def dig (v : List Int) : Nat → List Int
  | 0 => List.replicate 32 0
  | i + 1 => (dig v i).set i (rd v ((i : Int) / 4) / 2 ^ (24 - 8 * (i % 4)) % 256)
theorem dig_length (v : List Int) : ∀ i, (dig v i).length = 32
  | 0 => rfl
  | i + 1 => by rw [dig, List.length_set]; exact dig_length v i
/-- The digest of these bytes. -/
def sumOf (b : List Int) : List Int := dig (hv (b ++ padOf b.length)) 32

theorem padZ_length (n z : Nat) : (padZ n z).length = z + 1 := by unfold padZ; rw [List.length_cons, List.length_replicate]
theorem padZ_succ (n z : Nat) : padZ n z ++ [0] = padZ n (z + 1) := by
  unfold padZ
  rw [List.cons_append, ← List.replicate_succ']
/-- What end has made so far: the mark, the place of the answer, the padding. -/
structure PD (w0 W : World) (g1 g2 : Nat) (M : List Int) (v : Value) (pad : List Int) : Prop where
  below : Below w0.heap.size w0 W
  b1 : W.heap[g1]? = some (.cells (mkL (hv M) (hr M) M.length).toArray 114 (0, 0))
  b2 : W.heap[g2]? = some (.cells (u8s (List.replicate 32 0)) 56 (0, 0))
  own : Kd.R (Kd.int .u8) 5 W w0.heap.size (fun k => k ≠ g1 ∧ k ≠ g2) v pad
  l1 : w0.heap.size ≤ g1
  l2 : w0.heap.size ≤ g2
  n12 : g1 ≠ g2
section
variable {w0 W W1 : World} {g1 g2 : Nat} {M : List Int} {v : Value} {pad : List Int}
theorem PD.next (h : PD w0 W g1 g2 M v pad) (hb : Below W.heap.size W W1) : PD w0 W1 g1 g2 M v pad :=
  ⟨below_step h.below hb, (hb.block g1 (blk_lt h.b1)).trans h.b1, (hb.block g2 (blk_lt h.b2)).trans h.b2, Kd.R_below h.own hb, h.l1, h.l2, h.n12⟩
theorem PD.push (h : PD w0 W g1 g2 M v pad) {v1 : Value} {pad1 : List Int} (hR : Kd.R (Kd.int .u8) 5 W1 w0.heap.size (fun k => k ≠ g1 ∧ k ≠ g2) v1 pad1) (hb : Below w0.heap.size w0 W1) (hg : W.grownBy W1 v.ownBlock) : PD w0 W1 g1 g2 M v1 pad1 :=
  ⟨hb, blk_grown h.b1 hg (fun he => (h.own.1 g1 he.symm).1 rfl), blk_grown h.b2 hg (fun he => (h.own.1 g2 he.symm).2 rfl), hR, h.l1, h.l2, h.n12⟩
theorem PD.at72 (h : PD w0 W g1 g2 M v pad) : W.cell? ⟨g1, 72, none⟩ = some (.int .u64 M.length) := (blk_cell h.b1 72).trans (by simpa using mkL_tot (hv M) (hr M) M.length (hv_length M) (hr_length M))
end
/-- The answer's bytes so far. -/
structure OD (w0 W : World) (g1 g2 g6 : Nat) (v r : List Int) (T : Int) (d : List Int) : Prop where
  below : Below w0.heap.size w0 W
  b1 : W.heap[g1]? = some (.cells (mkL v r T).toArray 114 (0, 0))
  b2 : W.heap[g2]? = some (.cells (u8s (List.replicate 32 0)) 56 (0, 0))
  b6 : W.heap[g6]? = some (.cells (u8s d) 56 (0, 0))
  l2 : w0.heap.size ≤ g2
  l6 : w0.heap.size ≤ g6
  n16 : g1 ≠ g6
  n26 : g2 ≠ g6
theorem u8s_set (l : List Int) (j : Nat) (x : Int) : (u8s l).setIfInBounds j (.int .u8 x) = u8s (l.set j x) := by
  simp [u8s, List.map_set]
theorem OD.put {w0 W : World} {g1 g2 g6 : Nat} {v r : List Int} {T : Int} {d : List Int} (h : OD w0 W g1 g2 g6 v r T d) (j : Nat) (x : Int) : OD w0 (W.setCell ⟨g6, j, none⟩ (.int .u8 x)) g1 g2 g6 v r T (d.set j x) :=
  ⟨below_set h.below h.l6, blk_far h.b1 h.n16 _, blk_far h.b2 h.n26 _, by rw [← u8s_set]; exact blk_set h.b6 j (.int .u8 x), h.l2, h.l6, h.n16, h.n26⟩
theorem make_event {ops : Array Oper} {rest : List Oper} {o : Oper} {a : Act} {Q : Exit → Act → World → Prop} {W : World} (hgd : o.guard = none) {N : Tmp} (hd : o.dst = some N) (x y : Operand) (ho : o.op = .makeSlice 33 x y) (hx : a.eval x = .int .i64 1) (hy : a.eval y = .int .i64 128)
    (h : ∀ g w1, W.heap.size ≤ g → w1.heap[g]? = some (.cells (madeCells #[.int .u8 0] 128) 5 (0, 0)) → Below W.heap.size W w1 → wpList Try.prog ops Q rest (a.put o.dst (.slice (some ⟨g, 0, none⟩) 1 128)) w1) : wpList Try.prog ops Q (o :: rest) a W := by
  obtain ⟨i5, hi5, hz5, hs5, hb5⟩ := info_parts info5
  have hr := run_make (P := Try.prog) W 33 5 i5 _ Try.underlying33 hi5 hz5 .i64 .i64 1 128 (by decide) (by decide) (by rw [hb5]; decide) (by decide)
  rw [hs5] at hr
  refine Kd.event_run (v := .slice (some ⟨W.heap.size, 0, none⟩) 1 128) hgd ?_ (h _ (W.alloc (.cells (madeCells #[.int .u8 0] 128) 5)) (Nat.le_refl _) (blk_new W _) (below_alloc (Below.refl _ W) _))
  unfold execOp
  rw [ho]
  simp only [hx, hy, Sem.run_bind]
  rw [hr]
  rfl
theorem made0 : (madeCells #[Value.int .u8 0] 128)[0]? = some (.int .u8 0) := by kernel_rfl
theorem info56 : (Try.prog.info? 56).map (·.size) = some 32 := by kernel_rfl
theorem info114 : (Try.prog.info? 114).map (·.size) = some 73 := by kernel_rfl

set_option maxHeartbeats 8000000 in
set_option maxRecDepth 100000 in
theorem end_calls (M : List Int) (w : World) (hl : M.length ≤ 281474976710000) :
    Calls Try.prog 81 #[.agg (mkL (hv M) (hr M) M.length).toArray] w fun e w' => e = .returned (.agg (u8s (dig (hv (M ++ padOf M.length)) 32))) ∧ Below w.heap.size w w' := by
  go_enter Try.func81, Try.ntmps81
  go_upto_region 1 with (first
    | ((with_reducible refine gate_dst (N := 1) rfl ?_); refine box_event_ 114 (mkL (hv M) (hr M) M.length).toArray rfl rfl (by first | (go_simp; done) | (go_simp; rfl)) ?_; intro g1 w1 hg hA hb; have HA1 := Aside0.mk hA; have HB1 := Aside0.mk hb; have HG1 := Aside0.mk hg; clear hg hA hb)
    | ((with_reducible refine gate_dst (N := 2) rfl ?_); refine box_event_ 56 (u8s (List.replicate 32 0)) rfl rfl (by first | (go_simp; done) | (go_simp; rfl)) ?_; intro g2 w2 hg hA hb; have HA2 := Aside0.mk hA; have HB2 := Aside0.mk hb; have HG2 := Aside0.mk hg; clear hg hA hb))
  have u72 : w2.cell? ⟨g1, 72, none⟩ = some (.int .u64 M.length) := (blk_cell ((HB2.out.block g1 (blk_lt HA1.out)).trans HA1.out) 72).trans (by simpa using mkL_tot (hv M) (hr M) M.length (hv_length M) (hr_length M))
  go_upto_region 3 with ((with_reducible refine gate_dst (N := 11) rfl ?_); refine make_event rfl rfl _ _ rfl rfl rfl ?_; intro g4 w4 hg hA hb; have HA4 := Aside0.mk hA; have HB4 := Aside0.mk hb; have HG4 := Aside0.mk hg; clear hg hA hb)
  have z0 : w4.cell? ⟨g4, 0, none⟩ = some (.int .u8 0) := (blk_cell HA4.out 0).trans made0
  have y0 := blk_frozen HA4.out 0
  clear u72
  go_wp2_with fail
  have H0 : Aside0 (PD w (w4.setCell ⟨g4, 0, none⟩ (.int .u8 128)) g1 g2 M (.slice (some ⟨g4, 0, none⟩) 1 128) (padZ M.length 0)) := ⟨by
    have k1 := blk_lt HA1.out
    have k2 := blk_lt HA2.out
    have k4 := blk_lt HA4.out
    have e1 := HB1.out.size
    have e2 := HB2.out.size
    have e4 := HB4.out.size
    have h1 := HG1.out
    have h2 := HG2.out
    have h4 := HG4.out
    have b4 := blk_set HA4.out 0 (.int .u8 128)
    have l12 : g1 < w2.heap.size := by omega
    have n14 : g1 ≠ g4 := by omega
    have n24 : g2 ≠ g4 := by omega
    have r1 : (w4.setCell ⟨g4, 0, none⟩ (.int .u8 128)).heap[g1]? = some (.cells (mkL (hv M) (hr M) M.length).toArray 114 (0, 0)) := blk_far ((HB4.out.block g1 l12).trans ((HB2.out.block g1 k1).trans HA1.out)) n14 _
    have r2 : (w4.setCell ⟨g4, 0, none⟩ (.int .u8 128)).heap[g2]? = some (.cells (u8s (List.replicate 32 0)) 56 (0, 0)) := blk_far ((HB4.out.block g2 k2).trans HA2.out) n24 _
    have hb : Below w.heap.size w (w4.setCell ⟨g4, 0, none⟩ (.int .u8 128)) := below_set (below_step (below_step HB1.out HB2.out) HB4.out) (by show w.heap.size ≤ g4; omega)
    refine ⟨hb, r1, r2, ⟨fun k hk => ?_, [.int .u8 128], ⟨rfl, .inr ⟨g4, 128, _, rfl, by omega, b4, Nat.le_of_ble_eq_true rfl, by decide, ?_, ?_⟩⟩, Reps.front (c := [.int .u8 128]) rfl rfl (Reps.none _ _) rfl⟩, by omega, by omega, by omega⟩
    · have : g4 = k := by simpa [Value.ownBlock] using hk
      omega
    · rw [Array.size_setIfInBounds, size_madeCells]; rfl
    · kernel_rfl⟩
  clear HA1 HA2 HA4 HB1 HB2 HB4 HG1 HG2 HG4 z0 y0
  generalize w4.setCell ⟨g4, 0, none⟩ (.int .u8 128) = w5 at H0 ⊢
  go_loopw [4] (fun v4 wi => ∃ (z : Nat) (v : Value), z ≤ padN M.length ∧ v4 = v ∧ Aside0 (PD w wi g1 g2 M v (padZ M.length z))) (fun v4 _ => 65 - lenOf v4)
  case atStart => exact ⟨0, _, Nat.zero_le _, rfl, H0⟩
  case round =>
  clear H0
  obtain ⟨z, v, hz, rfl, HP⟩ := hrel
  obtain ⟨A, c, hv⟩ := Kd.R_slice HP.out.own
  subst hv
  rw [padZ_length] at HP ⊢
  have u72 := HP.out.at72
  have HZ : Aside0 (padN M.length = (119 - M.length % 64) % 64) := ⟨rfl⟩
  by_cases hlt : z < padN M.length
  · have q1 : wrap64 ((M.length : Int) % 64 + ((z : Int) + 1)) = (M.length : Int) % 64 + ((z : Int) + 1) := by have := HZ.out; unfold wrap64; omega
    have q2 : (((M.length : Int) + ((z : Int) + 1)) % 64 != 56) = true := by
      have := HZ.out
      rw [bne_iff_ne]
      omega
    go_wp2_with (at_builtin; refine Kd.R_append (Kd.int .u8) (w0 := w) w.heap.size rfl (.tmp 23) (.tmp 24) 33 5 (.int .u8 0) 1 rfl Try.underlying33 info5 rfl (by decide) (by omega) (.slice A (z + 1) c) (padZ M.length z) 0 [.int .u8 0] (fun k => k ≠ g1 ∧ k ≠ g2) (fun _ => False) rfl rfl ?aP (fun _ hk => hk.elim) ?aF HP.out.own HP.out.below HP.out.below.size ?aL ?_; (case aP => exact rfl); (case aF => exact fun k hk => (by have := blk_lt HP.out.b1; have := blk_lt HP.out.b2; omega)); (case aL => have := HZ.out; rw [padZ_length]; omega); intro v5 w6 ho hb hg hat; have HP2 := Aside0.mk (HP.out.push ho hb hg); clear ho hb hg hat)
    rw [padZ_succ] at HP2
    obtain ⟨A', c', hv'⟩ := Kd.R_slice HP2.out.own
    subst hv'
    refine ⟨⟨z + 1, _, by omega, rfl, HP2⟩, ?_⟩
    rw [padZ_length]
    show 65 - (z + 1 + 1) < 65 - (z + 1)
    have := HZ.out
    omega
  · obtain rfl : z = padN M.length := by omega
    have q1 : wrap64 ((M.length : Int) % 64 + (((padN M.length : Nat) : Int) + 1)) = (M.length : Int) % 64 + (((padN M.length : Nat) : Int) + 1) := by have := HZ.out; unfold wrap64; omega
    have q2 : (((M.length : Int) + (((padN M.length : Nat) : Int) + 1)) % 64 != 56) = false := by
      have := HZ.out
      rw [bne_eq_false_iff_eq]
      omega
    go_upto_region 7 with fail
    have H0 : Aside0 (PD w wr g1 g2 M (.slice A (padN M.length + 1) c) (padZ M.length (padN M.length) ++ lb M.length 0)) := ⟨by rw [lb, List.append_nil]; exact HP.out⟩
    rw [q1, Int.emod_add_emod]
    clear HP u72 q1 q2 hlt hz
    generalize wr = wa at *
    go_loopw [4, 5] (fun v4 v5 wi => ∃ (i : Nat) (v : Value), i ≤ 8 ∧ v4 = v ∧ v5 = .int .i64 (56 - 8 * (i : Int)) ∧ Aside0 (PD w wi g1 g2 M v (padZ M.length (padN M.length) ++ lb M.length i))) (fun _ v5 _ => (intOf v5 + 8).toNat)
    case atStart => exact ⟨0, _, by omega, rfl, rfl, H0⟩
    case round =>
    clear H0
    obtain ⟨i, v, hi, rfl, rfl, HP⟩ := hrel
    obtain ⟨A, c, hv⟩ := Kd.R_slice HP.out.own
    subst hv
    have HLB : Aside0 ((padZ M.length (padN M.length) ++ lb M.length i).length = padN M.length + 1 + i) := ⟨by rw [List.length_append, padZ_length, lb_length]⟩
    rw [HLB.out] at HP ⊢
    by_cases hlt : i < 8
    · have p1 : decide (8 * (i : Int) ≤ 56) = true := decide_eq_true (by omega)
      have p2 : (0 ≤ 56 - 8 * (i : Int)) = True := by simp; omega
      go_wp2_with (at_builtin; refine Kd.R_append (Kd.int .u8) (w0 := w) w.heap.size rfl (.tmp 30) (.tmp 35) 33 5 (.int .u8 0) 1 rfl Try.underlying33 info5 rfl (by decide) (by omega) (.slice A (padN M.length + 1 + i) c) (padZ M.length (padN M.length) ++ lb M.length i) ((M.length : Int) * 8 / 2 ^ (56 - 8 * i) % 256) [.int .u8 ((M.length : Int) * 8 / 2 ^ (56 - 8 * i) % 256)] (fun k => k ≠ g1 ∧ k ≠ g2) (fun _ => False) rfl rfl ?aP (fun _ hk => hk.elim) ?aF HP.out.own HP.out.below HP.out.below.size ?aL ?_; (case aP => exact rfl); (case aF => exact fun k hk => (by have := blk_lt HP.out.b1; have := blk_lt HP.out.b2; omega)); (case aL => have := HZ.out; rw [HLB.out]; omega); intro v5 w6 ho hb hg hat; have HP2 := Aside0.mk (HP.out.push ho hb hg); clear ho hb hg hat)
      have HLS : Aside0 (padZ M.length (padN M.length) ++ lb M.length i ++ [(M.length : Int) * 8 / 2 ^ (56 - 8 * i) % 256] = padZ M.length (padN M.length) ++ lb M.length (i + 1)) := ⟨by rw [List.append_assoc]; rfl⟩
      rw [HLS.out] at HP2
      go_roundw
      case rel => exact ⟨i + 1, _, by omega, rfl, congrArg (Value.int .i64) (by omega), HP2⟩
      case measure => simp [intOf]; omega
    · obtain rfl : i = 8 := by omega
      have p1 : decide (8 * ((8 : Nat) : Int) ≤ 56) = false := by decide
      have HPO : Aside0 (padZ M.length (padN M.length) ++ lb M.length 8 = padOf M.length) := ⟨rfl⟩
      have HPL : Aside0 (padN M.length + 1 + 8 = (padOf M.length).length) := ⟨by rw [padOf_length]⟩
      rw [HPO.out, HPL.out] at HP
      rw [HPL.out]
      have HA0 : Aside0 (∀ ad, A = some ad → ad.block ≠ g1) := ⟨fun ad had => by subst had; exact (HP.out.own.1 ad.block rfl).1⟩
      have HLL : Aside0 (M.length + (padOf M.length).length ≤ 281474976710656) := ⟨by have := HZ.out; rw [padOf_length]; omega⟩
      go_upto_region 11 with (go_at_call 80; refine (write_calls w _ g1 M (padOf M.length) A _ ⟨HP.out.b1, HP.out.l1, HP.out.below, KeepBut.refl _ _ _, hv_length M, hr_length M⟩ (Kd.R_reads' HP.out.own).2.2 (Kd.R_reads' HP.out.own).2.1 (fun _ => HA0.out) HLL.out).mono ?_; rintro e w7 ⟨rfl, hm⟩; have HM := Aside0.mk hm; clear hm)
      have H2 : Aside0 (w7.heap[g2]? = some (.cells (u8s (List.replicate 32 0)) 56 (0, 0))) := ⟨(HM.out.keep.2 g2 (blk_lt HP.out.b2) (Ne.symm HP.out.n12) (by simp)).trans HP.out.b2⟩
      go_upto_region 13 with ((with_reducible refine gate_dst (N := 6) rfl ?_); refine box_event_ 56 (u8s (List.replicate 32 0)) rfl rfl (by first | (go_simp; done) | (go_simp; rfl)) ?_; intro g6 w8 hg hA hb; have HA6 := Aside0.mk hA; have HB6 := Aside0.mk hb; have HG6 := Aside0.mk hg; clear hg hA hb)
      have HLV := Aside0.mk (hv_length (M ++ padOf M.length))
      have H0 : Aside0 (OD w w8 g1 g2 g6 (hv (M ++ padOf M.length)) (hr (M ++ padOf M.length)) ((M ++ padOf M.length).length : Int) (dig (hv (M ++ padOf M.length)) 0)) := ⟨by
        have k1 := blk_lt HM.out.blk
        have k2 := blk_lt H2.out
        have h6 := HG6.out
        have hs := HM.out.below.size
        exact ⟨below_step HM.out.below HB6.out, (HB6.out.block g1 k1).trans HM.out.blk, (HB6.out.block g2 k2).trans H2.out, HA6.out, HP.out.l2, by omega, by omega, by omega⟩⟩
      clear HP HM H2 HA6 HB6 HG6 HA0 HLL
      generalize hve : hv (M ++ padOf M.length) = v at H0 HLV
      have HVE := Aside0.mk hve
      clear hve
      go_loopw [39] (fun v39 wi => ∃ (i : Nat), i ≤ 32 ∧ v39 = .int .i64 i ∧ Aside0 (OD w wi g1 g2 g6 v (hr (M ++ padOf M.length)) ((M ++ padOf M.length).length : Int) (dig v i))) (fun v39 _ => 32 - (intOf v39).toNat)
      case atStart => exact ⟨0, by omega, rfl, H0⟩
      case round =>
      clear H0
      obtain ⟨i, hi, rfl, HX⟩ := hrel
      by_cases hlt : i < 32
      · have r0 : ((i : Int) < 32) = True := by simp; omega
        have r1 : ((i : Int) / 4 < 8) = True := by simp; omega
        have r2 : (0 ≤ (i : Int) / 4) = True := by simp; omega
        have c1 : wr.cell? ⟨g1, i / 4, none⟩ = some (.int .u32 (rd v ((i / 4 : Nat) : Int))) := by
          rw [blk_cell HX.out.b1, List.getElem?_toArray, mkL_v v _ _ HLV.out _ (by omega)]
        have s0 : (0 ≤ 24 - 8 * ((i : Int) % 4)) = True := by simp; omega
        have c6 : wr.cell? ⟨g6, i, none⟩ = some (.int .u8 (rd (dig v i) (i : Int))) := (blk_cell HX.out.b6 i).trans (u8s_at _ i (by rw [dig_length]; exact hlt))
        have f6 := blk_frozen HX.out.b6 i
        go_wp2_with fail
        refine ⟨⟨i + 1, by omega, by go_num, ⟨HX.out.put i (rd v ((i : Int) / 4) / 2 ^ (24 - 8 * (i % 4)) % 256)⟩⟩, ?_⟩
        simp [intOf]; omega
      · obtain rfl : i = 32 := by omega
        have HDL : Aside0 ((dig v 32).length = 32) := ⟨dig_length v 32⟩
        go_wp2_with (first
          | ((with_reducible refine gate_dst (N := 56) rfl ?_); refine get_row rfl rfl rfl HX.out.b6 Try.underlying56 rfl (info56.trans (by rw [size_u8s, HDL.out])) rfl ?_)
          | ((with_reducible refine gate_store (t := 56) (p := 2) rfl ?_); refine put_row rfl rfl rfl (g := g2) (u8s (dig v 32)) rfl rfl HX.out.b2 (info56.trans (by rw [size_u8s, HDL.out])) (by rw [size_u8s, size_u8s, HDL.out]; rfl) (all_one _ _) ?_; intro w20 h1 h2; have HR := Aside0.mk h1; have HWr := Aside0.mk h2; clear h1 h2))
        refine bodyPost_ret (results_cell_row rfl _ _ g2 56 _ (0, 0) _ rfl HR.out Try.underlying56 rfl (info56.trans (by rw [size_u8s, HDL.out]))) rfl ?_
        refine ⟨?_, HWr.out.below HX.out.below HX.out.l2⟩
        rw [HVE.out]
end Go.Proofs.Ytcgajjaaiablkaa.ShaEnd
