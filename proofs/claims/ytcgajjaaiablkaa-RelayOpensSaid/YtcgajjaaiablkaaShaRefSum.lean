/- The reference's SHA-256: Sum. -/
import Derived.Test.YtcgajjaaiablkaaShaRefB
import Derived.Test.YtcgajjaaiablkaaShaPad
namespace Go.Proofs.Ytcgajjaaiablkaa.ShaRefSum
open Go.RowKit Go.Proofs.YtcgajjaaiablkaaW.PrintWords Go.Proofs.YtcgajjaaiablkaaW.PrintLast Go.Proofs.YtcgajjaaiablkaaW.PrintMore
open Go.Proofs.Ytcgajjaaiablkaa.PRelaySealed Go.Proofs.Ytcgajjaaiablkaa.ShaP Go.Proofs.Ytcgajjaaiablkaa.ShaM Go.Proofs.Ytcgajjaaiablkaa.ShaRound Go.Proofs.Ytcgajjaaiablkaa.ShaWrite Go.Proofs.Ytcgajjaaiablkaa.ShaEnd Go.Proofs.Ytcgajjaaiablkaa.ShaRef Go.Proofs.Ytcgajjaaiablkaa.ShaRefB Go.Proofs.Ytcgajjaaiablkaa.ShaPad
set_option linter.unusedVariables false
set_option linter.unusedSimpArgs false

/-- Where Sum stands: the answer's place, the words, the padded bytes. -/
structure RS (w0 W : World) (g2 g4 : Nat) (x : List Int) (vp : Value) (p : List Int) : Prop where
  below : Below w0.heap.size w0 W
  b2 : W.heap[g2]? = some (.cells (u8s (List.replicate 32 0)) 56 (0, 0))
  b4 : W.heap[g4]? = some (.cells (u32s x) 97 (0, 0))
  own : Kd.R (Kd.int .u8) 5 W w0.heap.size (fun k => k ≠ g2 ∧ k ≠ g4) vp p
  l2 : w0.heap.size ≤ g2
  l4 : w0.heap.size ≤ g4
  n24 : g2 ≠ g4
section
variable {w0 W W1 : World} {g2 g4 : Nat} {x p : List Int} {vp : Value}
theorem RS.next (h : RS w0 W g2 g4 x vp p) (hb : Below W.heap.size W W1) : RS w0 W1 g2 g4 x vp p :=
  ⟨below_step h.below hb, (hb.block g2 (blk_lt h.b2)).trans h.b2, (hb.block g4 (blk_lt h.b4)).trans h.b4, Kd.R_below h.own hb, h.l2, h.l4, h.n24⟩
theorem RS.wrote (h : RS w0 W g2 g4 x vp p) {y : List Int} (hr : W1.heap[g4]? = some (.cells (u32s y) 97 (0, 0))) (hw : Wrote W W1 g4) : RS w0 W1 g2 g4 y vp p := by
  refine ⟨hw.below h.below h.l4, hw.other h.b2 h.n24, hr, ?_, h.l2, h.l4, h.n24⟩
  obtain ⟨cs, rfl⟩ := hw
  exact Kd.R_keep h.own ⟨by simp [World.setRow], fun k hk hne _ => setRow_other W g4 k cs hne⟩ (fun k hk => hk.2)
end
/-- The answer's bytes so far. -/
structure RD (w0 W : World) (g2 g4 g6 : Nat) (v d : List Int) : Prop where
  below : Below w0.heap.size w0 W
  b4 : W.heap[g4]? = some (.cells (u32s v) 97 (0, 0))
  b2 : W.heap[g2]? = some (.cells (u8s (List.replicate 32 0)) 56 (0, 0))
  b6 : W.heap[g6]? = some (.cells (u8s d) 56 (0, 0))
  l2 : w0.heap.size ≤ g2
  l6 : w0.heap.size ≤ g6
  n46 : g4 ≠ g6
  n26 : g2 ≠ g6
theorem RD.put {w0 W : World} {g2 g4 g6 : Nat} {v d : List Int} (h : RD w0 W g2 g4 g6 v d) (j : Nat) (x : Int) : RD w0 (W.setCell ⟨g6, j, none⟩ (.int .u8 x)) g2 g4 g6 v (d.set j x) :=
  ⟨below_set h.below h.l6, blk_far h.b4 h.n46 _, blk_far h.b2 h.n26 _, by rw [← u8s_set]; exact blk_set h.b6 j (.int .u8 x), h.l2, h.l6, h.n46, h.n26⟩
set_option maxHeartbeats 8000000 in
set_option maxRecDepth 100000 in
theorem rsum_calls (b : List Int) (A : Option Addr) (c : Nat) (w : World) (hC : Kd.C (Kd.int .u8) w A b.length b) (hc : b.length ≤ c) (hl : b.length ≤ 140737488355232) :
    Calls Try.prog 31 #[.slice A b.length c] w fun e w' => e = .returned (.agg (u8s (sumOf b))) ∧ Below w.heap.size w w' := by
  have HC := Aside0.mk hC
  have HCC := Aside0.mk hc
  have HMOD := Aside0.mk (padOf_mod b.length)
  have HPL : Aside0 ((b ++ padOf b.length).length ≤ 281474976710656) := ⟨by rw [List.length_append, padOf_length]; unfold padN; omega⟩
  have HSU : Aside0 (sumOf b = dig (blocksN (b ++ padOf b.length) ((b ++ padOf b.length).length / 64)) 32) := ⟨rfl⟩
  clear hC hc
  go_enter Try.func31, Try.ntmps31
  go_upto_region 3 with (first
    | ((with_reducible refine gate_dst (N := 2) rfl ?_); refine box_event_ 56 (u8s (List.replicate 32 0)) rfl rfl (by first | (go_simp; done) | (go_simp; rfl)) ?_; intro g2 w1 hg hA hb; have HA2 := Aside0.mk hA; have HB1 := Aside0.mk hb; have HG2 := Aside0.mk hg; clear hg hA hb)
    | (go_at_call 64; refine (padded_calls b A c _ (Kd.C_below HC.out HB1.out) HCC.out hl).mono ?_; rintro e w2 ⟨vp, rfl, hR, hb⟩; have HRP := Aside0.mk hR; have HB2 := Aside0.mk hb; clear hR hb)
    | (go_at_call 65; refine (rfirst_calls _).mono ?_; rintro e w3 ⟨rfl, hb⟩; have HB3 := Aside0.mk hb; clear hb)
    | ((with_reducible refine gate_dst (N := 4) rfl ?_); refine box_event_ 97 (u32s (List.replicate 8 0)) rfl rfl (by first | (go_simp; done) | (go_simp; rfl)) ?_; intro g4 w4 hg hA hb; have HA4 := Aside0.mk hA; have HB4 := Aside0.mk hb; have HG4 := Aside0.mk hg; clear hg hA hb)
    | ((with_reducible refine gate_store (t := 97) (p := 4) rfl ?_); refine put_row rfl rfl rfl (g := g4) (u32s iv) rfl rfl HA4.out info97 rfl (all_one _ _) ?_; intro w5 h1 h2; have HR4 := Aside0.mk h1; have HW4 := Aside0.mk h2; clear h1 h2))
  generalize hp : b ++ padOf b.length = p at HRP HPL HSU
  have HPM : Aside0 (p.length % 64 = 0) := ⟨by rw [← hp, List.length_append]; exact HMOD.out⟩
  clear hp HMOD
  have H0 : Aside0 (RS w w5 g2 g4 (blocksN p 0) vp p) := ⟨by
    have k2 := blk_lt HA2.out
    have e1 := HB1.out.size
    have e2 := HB2.out.size
    have e3 := HB3.out.size
    have h2 := HG2.out
    have h4 := HG4.out
    have n24 : g2 ≠ g4 := by omega
    have k22 : g2 < w2.heap.size := by omega
    have k23 : g2 < w3.heap.size := by omega
    have hlt := Kd.R_lt HRP.out
    have hba := Kd.R_base HRP.out
    have hr0 : Kd.R (Kd.int .u8) 5 w2 w.heap.size (fun k => k ≠ g2 ∧ k < w2.heap.size) vp p := Kd.R_lower (Kd.R_reok rfl HRP.out (fun k hk => ⟨by have := hba k hk; omega, hlt k hk⟩)) e1
    have hr4 : Kd.R (Kd.int .u8) 5 w4 w.heap.size (fun k => k ≠ g2 ∧ k ≠ g4) vp p := Kd.R_mono (Kd.R_below (Kd.R_below hr0 HB3.out) HB4.out) (fun k hk => ⟨hk.1, by have := hk.2; omega⟩)
    have hb4 : Below w.heap.size w w4 := below_step (below_step (below_step HB1.out HB2.out) HB3.out) HB4.out
    have r2 : w4.heap[g2]? = some (.cells (u8s (List.replicate 32 0)) 56 (0, 0)) := (HB4.out.block g2 k23).trans ((HB3.out.block g2 k22).trans ((HB2.out.block g2 k2).trans HA2.out))
    exact RS.wrote (x := List.replicate 8 0) ⟨hb4, r2, HA4.out, hr4, h2, by omega, n24⟩ HR4.out HW4.out⟩
  clear HA2 HB1 HG2 HRP HB2 HB3 HA4 HB4 HG4 HR4 HW4
  obtain ⟨Ap, cp, hvp⟩ := Kd.R_slice H0.out.own
  subst hvp
  go_wp2_with fail
  go_loopw [5] (fun v5 wi => ∃ (q : Nat), 64 * q ≤ p.length ∧ v5 = .int .i64 ((64 * q : Nat) : Int) ∧ Aside0 (RS w wi g2 g4 (blocksN p q) (.slice Ap p.length cp) p)) (fun v5 _ => p.length - (intOf v5).toNat)
  case atStart => exact ⟨0, by omega, rfl, H0⟩
  case round =>
  clear H0
  obtain ⟨q, hq, rfl, HX⟩ := hrel
  have HPI := HPL.out
  have HBL : Aside0 ((blocksN p q).length = 8) := ⟨blocksN_length p q⟩
  obtain ⟨a, ha⟩ : ∃ a : Nat, 64 * q = a := ⟨_, rfl⟩
  have HQA := Aside0.mk ha
  have hi : p.length % 64 = 0 := HPM.out
  rw [ha] at hq ⊢
  by_cases hlt : a < p.length
  · have hfit : a + 64 ≤ p.length := by omega
    clear ha
    go_wp2_with (first
      | ((with_reducible refine gate_dst (N := 17) rfl ?_); refine get_row rfl rfl rfl HX.out.b4 Try.underlying97 rfl (info97.trans (by rw [size_u32s, HBL.out])) rfl ?_)
      | (go_at_call 66; refine (block_calls (blocksN p q) p Ap cp a _ HBL.out (Kd.R_reads' HX.out.own).2.2 hfit HPL.out).mono ?_; rintro e w6 ⟨rfl, hb⟩; replace HX := Aside0.mk (HX.out.next hb); clear hb)
      | ((with_reducible refine gate_store (t := 97) (p := 4) rfl ?_); refine put_row rfl rfl rfl (g := g4) (u32s (comp (blocksN p q) ((p.drop a).take 64))) rfl rfl HX.out.b4 (info97.trans (by rw [size_u32s, comp_length _ _ HBL.out])) (by rw [size_u32s, size_u32s, HBL.out, comp_length _ _ HBL.out]) (all_one _ _) ?_; intro w7 h1 h2; replace HX := Aside0.mk (HX.out.wrote h1 h2); clear h1 h2))
    have HX2 : Aside0 (RS w w7 g2 g4 (blocksN p (q + 1)) (.slice Ap p.length cp) p) := ⟨by
      have e : blocksN p (q + 1) = comp (blocksN p q) ((p.drop a).take 64) := by rw [blocksN, HQA.out]
      rw [e]
      exact HX.out⟩
    go_roundw
    case rel => exact ⟨q + 1, by have := HQA.out; omega, congrArg (Value.int .i64) (by have := HQA.out; omega), HX2⟩
    case measure => simp [intOf]; omega
  · have hqe : q = p.length / 64 := by omega
    subst hqe
    go_upto_region 8 with ((with_reducible refine gate_dst (N := 6) rfl ?_); refine box_event_ 56 (u8s (List.replicate 32 0)) rfl rfl (by first | (go_simp; done) | (go_simp; rfl)) ?_; intro g6 w8 hg hA hb; have HA6 := Aside0.mk hA; have HB6 := Aside0.mk hb; have HG6 := Aside0.mk hg; clear hg hA hb)
    generalize hve : blocksN p (p.length / 64) = v at HX HBL
    have HVE := Aside0.mk hve
    clear hve
    have H0 : Aside0 (RD w w8 g2 g4 g6 v (dig v 0)) := ⟨by
      have k2 := blk_lt HX.out.b2
      have k4 := blk_lt HX.out.b4
      have h6 := HG6.out
      have hs := HX.out.below.size
      exact ⟨below_step HX.out.below HB6.out, (HB6.out.block g4 k4).trans HX.out.b4, (HB6.out.block g2 k2).trans HX.out.b2, HA6.out, HX.out.l2, by omega, by omega, by omega⟩⟩
    clear HX HA6 HB6 HG6 HQA ha hq
    go_wp2_with fail
    go_loopw [7] (fun v7 wi => ∃ (i : Nat), i ≤ 32 ∧ v7 = .int .i64 i ∧ Aside0 (RD w wi g2 g4 g6 v (dig v i))) (fun v7 _ => 32 - (intOf v7).toNat)
    case atStart => exact ⟨0, by omega, rfl, H0⟩
    case round =>
    clear H0
    obtain ⟨i, hi, rfl, HX⟩ := hrel
    by_cases hlt : i < 32
    · have r0 : ((i : Int) < 32) = True := by simp; omega
      have r1 : ((i : Int) / 4 < 8) = True := by simp; omega
      have r2 : (0 ≤ (i : Int) / 4) = True := by simp; omega
      have c1 : wr.cell? ⟨g4, i / 4, none⟩ = some (.int .u32 (rd v ((i / 4 : Nat) : Int))) := (blk_cell HX.out.b4 (i / 4)).trans (u32s_at v (i / 4) (by rw [HBL.out]; omega))
      have s0 : (0 ≤ 24 - 8 * ((i : Int) % 4)) = True := by simp; omega
      have sU : IntKind.u64.wrap (24 - 8 * ((i : Int) % 4)) = 24 - 8 * ((i : Int) % 4) := by
        simp only [IntKind.wrap, IntKind.bits, IntKind.signed]
        simp
        omega
      have c6 : wr.cell? ⟨g6, i, none⟩ = some (.int .u8 (rd (dig v i) (i : Int))) := (blk_cell HX.out.b6 i).trans (u8s_at _ i (by rw [dig_length]; exact hlt))
      have f6 := blk_frozen HX.out.b6 i
      go_wp2_with fail
      go_roundw
      case rel => exact ⟨i + 1, by omega, by go_num, ⟨HX.out.put i (rd v ((i : Int) / 4) / 2 ^ (24 - 8 * (i % 4)) % 256)⟩⟩
      case measure => simp [intOf]; omega
    · obtain rfl : i = 32 := by omega
      have HDL : Aside0 ((dig v 32).length = 32) := ⟨dig_length v 32⟩
      go_wp2_with (first
        | ((with_reducible refine gate_dst (N := 38) rfl ?_); refine get_row rfl rfl rfl HX.out.b6 Try.underlying56 rfl (info56.trans (by rw [size_u8s, HDL.out])) rfl ?_)
        | ((with_reducible refine gate_store (t := 56) (p := 2) rfl ?_); refine put_row rfl rfl rfl (g := g2) (u8s (dig v 32)) rfl rfl HX.out.b2 (info56.trans (by rw [size_u8s, HDL.out])) (by rw [size_u8s, size_u8s, HDL.out]; rfl) (all_one _ _) ?_; intro w20 h1 h2; have HR := Aside0.mk h1; have HWr := Aside0.mk h2; clear h1 h2))
      refine bodyPost_ret (results_cell_row rfl _ _ g2 56 _ (0, 0) _ rfl HR.out Try.underlying56 rfl (info56.trans (by rw [size_u8s, HDL.out]))) rfl ?_
      refine ⟨?_, HWr.out.below HX.out.below HX.out.l2⟩
      rw [HSU.out, HVE.out]
end Go.Proofs.Ytcgajjaaiablkaa.ShaRefSum
