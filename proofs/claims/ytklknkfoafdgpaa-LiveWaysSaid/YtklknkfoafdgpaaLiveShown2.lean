/- The chapter's example, walked: shown answers true. -/
import Derived.Test.YtklknkfoafdgpaaLiveShown
import Derived.Test.YtklknkfoafdgpaaLiveFit
import Derived.Deep.RegionWith
namespace Go.Proofs.Ytklknkfoafdgpaa.LiveShown2
open Go.RowKit Go.Proofs.YtklknkfoafdgpaaW.PrintWords Go.Proofs.YtklknkfoafdgpaaW.PrintLast Go.Proofs.YtklknkfoafdgpaaW.PrintMore
open Go.Proofs.Ytklknkfoafdgpaa.PLiveKnown Go.Proofs.Ytklknkfoafdgpaa.LiveT Go.Proofs.Ytklknkfoafdgpaa.LiveB Go.Proofs.Ytklknkfoafdgpaa.LiveSet Go.Proofs.Ytklknkfoafdgpaa.LiveAhead Go.Proofs.Ytklknkfoafdgpaa.LiveEnd Go.Proofs.Ytklknkfoafdgpaa.LiveInv Go.Proofs.Ytklknkfoafdgpaa.LiveSettled Go.Proofs.Ytklknkfoafdgpaa.LiveCopied Go.Proofs.Ytklknkfoafdgpaa.LiveAft Go.Proofs.Ytklknkfoafdgpaa.LiveRunP Go.Proofs.Ytklknkfoafdgpaa.LiveRunW Go.Proofs.Ytklknkfoafdgpaa.LiveSame Go.Proofs.Ytklknkfoafdgpaa.LiveKn Go.Proofs.Ytklknkfoafdgpaa.LiveShown Go.Proofs.Ytklknkfoafdgpaa.LiveFit
set_option linter.unusedVariables false
set_option linter.unusedSimpArgs false

set_option maxHeartbeats 8000000 in
set_option maxRecDepth 100000 in
theorem shown_calls (w : World) : Calls Try.prog 21 #[] w fun e w' => e = .returned (.bool true) ∧ Below w.heap.size w w' := by
  obtain ⟨V, hV⟩ := lfp_exists (codeOf known)
  obtain ⟨h1, h2, h3, h4, h5, h6⟩ := known_after hV
  have A1 := Aside0.mk h1
  have A2 := Aside0.mk h2
  have A3 := Aside0.mk h3
  have A4 := Aside0.mk h4
  have A5 := Aside0.mk h5
  have A6 := Aside0.mk h6
  have HRUN := Aside0.mk (known_run hV)
  have HV := Aside0.mk hV
  have HN : Aside0 (known.length * 64 ≤ 281474976710656) := ⟨by decide⟩
  clear hV h1 h2 h3 h4 h5 h6
  go_enter Try.func21, Try.ntmps21
  go_wp2_with (first
    | (go_at_call 43; have hx := K6.out; clear hx; refine (known_calls _).mono ?_; rintro e w5 ⟨v, rfl, ho, hb⟩; obtain ⟨Aw, cw, rfl⟩ := Kd.R_slice ho; have HRW := Aside0.mk ho; have HBo := Aside0.mk HB.out; have HCo := Aside0.mk HC.out; have HGo := Aside0.mk HG.out; have HBk := Aside0.mk hb; replace HB := Aside0.mk (below_step HB.out hb); replace HC := Aside0.mk (Kd.C_below HC.out hb); replace HG := Aside0.mk ((hb.block g1 (blk_lt HG.out)).trans HG.out); (try clear u0 u1 u2); have u0 := (blk_cell HG.out 0).trans (rfl : (#[Value.int .i64 0, .int .i64 4, .slice A known.length c] : Array Value)[0]? = some (.int .i64 0)); have u1 := (blk_cell HG.out 1).trans (rfl : (#[Value.int .i64 0, .int .i64 4, .slice A known.length c] : Array Value)[1]? = some (.int .i64 4)); have u2 := (blk_cell HG.out 2).trans (rfl : (#[Value.int .i64 0, .int .i64 4, .slice A known.length c] : Array Value)[2]? = some (.slice A known.length c)); clear ho hb)
    | ((with_reducible refine gate_dst (N := 2) rfl ?_); refine zero_event 24 #[.int .i64 0, .int .i64 0, .slice none 0 0] rfl rfl (by first | (go_simp; done) | (go_simp; rfl)) ?_; intro g2 w6 hg hA hb; have HG2 := Aside0.mk hg; have HG2w := Aside0.mk (Nat.le_trans HB.out.size hg); have z0 : w6.cell? ⟨g2, 0, none⟩ = some (.int .i64 0) := ((blk_cell hA 0).trans rfl); have z1 : w6.cell? ⟨g2, 1, none⟩ = some (.int .i64 0) := ((blk_cell hA 1).trans rfl); have z2 : w6.cell? ⟨g2, 2, none⟩ = some (.slice none 0 0) := ((blk_cell hA 2).trans rfl); have y0 := blk_frozen hA 0; have y1 := blk_frozen hA 1; have y2 := blk_frozen hA 2; have HW := Aside0.mk (blk_put (blk_put (blk_put hA 0 (.int .i64 0) rfl) 1 (.int .i64 4) rfl) 2 (.slice Aw known.length cw) rfl); have hne : ∀ k, k < w5.heap.size → k ≠ g2 := (fun k hk he => by omega); have HRW7 := Aside0.mk (Kd.R_far (p := ⟨g2, 2, none⟩) (Kd.R_far (p := ⟨g2, 1, none⟩) (Kd.R_far (p := ⟨g2, 0, none⟩) (Kd.R_below (Kd.R_mono (Kd.R_bound HRW.out) (fun k hk => hne k hk.2.2.1)) hb) (fun k hk => hk) (.int .i64 0)) (fun k hk => hk) (.int .i64 4)) (fun k hk => hk) (.slice Aw known.length cw)); have HB7 : Aside0 (Below w5.heap.size w5 (((w6.setCell ⟨g2, 0, none⟩ (.int .i64 0)).setCell ⟨g2, 1, none⟩ (.int .i64 4)).setCell ⟨g2, 2, none⟩ (.slice Aw known.length cw))) := (⟨below_set (below_set (below_set hb hg) hg) hg⟩); clear u0 u1 u2 hne hg hA hb)
    | (go_at_call 43; refine (known_calls _).mono ?_; rintro e w1 ⟨v, rfl, ho, hb⟩; obtain ⟨A, c, rfl⟩ := Kd.R_slice ho; have HR1 := Aside0.mk ho; have HB1 := Aside0.mk hb; clear ho hb)
    | (go_at_call 11; have hx := K5.out; clear hx; refine (after_calls 0 4 A c known V 2 0 _ HC.out HN.out HV.out).mono ?_; rw [A6.out]; rintro e u69 ⟨v, rfl, ho, hb⟩; obtain ⟨a6, c6, rfl⟩ := Kd.R_slice ho; have K6 := Aside0.mk ho; replace HB := Aside0.mk (below_step HB.out hb); replace HC := Aside0.mk (Kd.C_below HC.out hb); replace HG := Aside0.mk ((hb.block g1 (blk_lt HG.out)).trans HG.out); (try clear u0 u1 u2); have u0 := (blk_cell HG.out 0).trans (rfl : (#[Value.int .i64 0, .int .i64 4, .slice A known.length c] : Array Value)[0]? = some (.int .i64 0)); have u1 := (blk_cell HG.out 1).trans (rfl : (#[Value.int .i64 0, .int .i64 4, .slice A known.length c] : Array Value)[1]? = some (.int .i64 4)); have u2 := (blk_cell HG.out 2).trans (rfl : (#[Value.int .i64 0, .int .i64 4, .slice A known.length c] : Array Value)[2]? = some (.slice A known.length c)); clear ho hb)
    | (go_at_call 11; have hx := K4.out; clear hx; refine (after_calls 0 4 A c known V 0 5 _ HC.out HN.out HV.out).mono ?_; rw [A5.out]; rintro e u59 ⟨v, rfl, ho, hb⟩; obtain ⟨a5, c5, rfl⟩ := Kd.R_slice ho; have K5 := Aside0.mk ho; replace HB := Aside0.mk (below_step HB.out hb); replace HC := Aside0.mk (Kd.C_below HC.out hb); replace HG := Aside0.mk ((hb.block g1 (blk_lt HG.out)).trans HG.out); (try clear u0 u1 u2); have u0 := (blk_cell HG.out 0).trans (rfl : (#[Value.int .i64 0, .int .i64 4, .slice A known.length c] : Array Value)[0]? = some (.int .i64 0)); have u1 := (blk_cell HG.out 1).trans (rfl : (#[Value.int .i64 0, .int .i64 4, .slice A known.length c] : Array Value)[1]? = some (.int .i64 4)); have u2 := (blk_cell HG.out 2).trans (rfl : (#[Value.int .i64 0, .int .i64 4, .slice A known.length c] : Array Value)[2]? = some (.slice A known.length c)); clear ho hb)
    | (go_at_call 11; have hx := K3.out; clear hx; refine (after_calls 0 4 A c known V 0 0 _ HC.out HN.out HV.out).mono ?_; rw [A4.out]; rintro e u49 ⟨v, rfl, ho, hb⟩; obtain ⟨a4, c4, rfl⟩ := Kd.R_slice ho; have K4 := Aside0.mk ho; replace HB := Aside0.mk (below_step HB.out hb); replace HC := Aside0.mk (Kd.C_below HC.out hb); replace HG := Aside0.mk ((hb.block g1 (blk_lt HG.out)).trans HG.out); (try clear u0 u1 u2); have u0 := (blk_cell HG.out 0).trans (rfl : (#[Value.int .i64 0, .int .i64 4, .slice A known.length c] : Array Value)[0]? = some (.int .i64 0)); have u1 := (blk_cell HG.out 1).trans (rfl : (#[Value.int .i64 0, .int .i64 4, .slice A known.length c] : Array Value)[1]? = some (.int .i64 4)); have u2 := (blk_cell HG.out 2).trans (rfl : (#[Value.int .i64 0, .int .i64 4, .slice A known.length c] : Array Value)[2]? = some (.slice A known.length c)); clear ho hb)
    | (go_at_call 11; have hx := K2.out; clear hx; refine (after_calls 0 4 A c known V 0 1 _ HC.out HN.out HV.out).mono ?_; rw [A3.out]; rintro e u39 ⟨v, rfl, ho, hb⟩; obtain ⟨a3, c3, rfl⟩ := Kd.R_slice ho; have K3 := Aside0.mk ho; replace HB := Aside0.mk (below_step HB.out hb); replace HC := Aside0.mk (Kd.C_below HC.out hb); replace HG := Aside0.mk ((hb.block g1 (blk_lt HG.out)).trans HG.out); (try clear u0 u1 u2); have u0 := (blk_cell HG.out 0).trans (rfl : (#[Value.int .i64 0, .int .i64 4, .slice A known.length c] : Array Value)[0]? = some (.int .i64 0)); have u1 := (blk_cell HG.out 1).trans (rfl : (#[Value.int .i64 0, .int .i64 4, .slice A known.length c] : Array Value)[1]? = some (.int .i64 4)); have u2 := (blk_cell HG.out 2).trans (rfl : (#[Value.int .i64 0, .int .i64 4, .slice A known.length c] : Array Value)[2]? = some (.slice A known.length c)); clear ho hb)
    | (go_at_call 11; have hx := K1.out; clear hx; refine (after_calls 0 4 A c known V 0 2 _ HC.out HN.out HV.out).mono ?_; rw [A2.out]; rintro e u29 ⟨v, rfl, ho, hb⟩; obtain ⟨a2, c2, rfl⟩ := Kd.R_slice ho; have K2 := Aside0.mk ho; replace HB := Aside0.mk (below_step HB.out hb); replace HC := Aside0.mk (Kd.C_below HC.out hb); replace HG := Aside0.mk ((hb.block g1 (blk_lt HG.out)).trans HG.out); (try clear u0 u1 u2); have u0 := (blk_cell HG.out 0).trans (rfl : (#[Value.int .i64 0, .int .i64 4, .slice A known.length c] : Array Value)[0]? = some (.int .i64 0)); have u1 := (blk_cell HG.out 1).trans (rfl : (#[Value.int .i64 0, .int .i64 4, .slice A known.length c] : Array Value)[1]? = some (.int .i64 4)); have u2 := (blk_cell HG.out 2).trans (rfl : (#[Value.int .i64 0, .int .i64 4, .slice A known.length c] : Array Value)[2]? = some (.slice A known.length c)); clear ho hb)
    | (go_at_call 11; refine (after_calls 0 4 A c known V 0 4 _ HC.out HN.out HV.out).mono ?_; rw [A1.out]; rintro e u19 ⟨v, rfl, ho, hb⟩; obtain ⟨a1, c1, rfl⟩ := Kd.R_slice ho; have K1 := Aside0.mk ho; replace HB := Aside0.mk (below_step HB.out hb); replace HC := Aside0.mk (Kd.C_below HC.out hb); replace HG := Aside0.mk ((hb.block g1 (blk_lt HG.out)).trans HG.out); (try clear u0 u1 u2); have u0 := (blk_cell HG.out 0).trans (rfl : (#[Value.int .i64 0, .int .i64 4, .slice A known.length c] : Array Value)[0]? = some (.int .i64 0)); have u1 := (blk_cell HG.out 1).trans (rfl : (#[Value.int .i64 0, .int .i64 4, .slice A known.length c] : Array Value)[1]? = some (.int .i64 4)); have u2 := (blk_cell HG.out 2).trans (rfl : (#[Value.int .i64 0, .int .i64 4, .slice A known.length c] : Array Value)[2]? = some (.slice A known.length c)); clear ho hb)
    | ((with_reducible refine gate_dst (N := 6) rfl ?_); (try (refine gate_guard (by rfl) ?_; dsimp only)); refine Kd.R_lit (Kd.int .i64) (w0 := w) w.heap.size 3 rfl (N := 6) rfl (xs := ([0, 1] : List Int)) (inner := [.int .i64 0, .int .i64 1]) (ok := fun _ => True) (okp := fun _ => True) (by first | (go_simp; done) | (go_simp; rfl)) (Reps.front (c := [.int .i64 0]) rfl rfl (Reps.front (c := [.int .i64 1]) rfl rfl (Reps.none _ _) rfl) rfl) (fun _ hk => hk) trivial HB.out HB.out.size (by simp) ?_; intro v u18 ho hb0 hg hnew; have hb := (⟨hg.os, hg.tape, hg.output, hg.size, fun k hk => hg.block k hk (by simp)⟩ : Below _ _ _); obtain ⟨b1, d1, rfl⟩ := Kd.R_slice ho; have L1 := Aside0.mk ho; have J1 := Aside0.mk (Kd.C_below (Kd.R_reads' K1.out).2.2 hb); have M1 := Aside0.mk (Kd.R_reads' K1.out).2.1; replace HB := Aside0.mk (hb0); replace HC := Aside0.mk (Kd.C_below HC.out hb); replace HG := Aside0.mk ((hb.block g1 (blk_lt HG.out)).trans HG.out); (try clear u0 u1 u2); have u0 := (blk_cell HG.out 0).trans (rfl : (#[Value.int .i64 0, .int .i64 4, .slice A known.length c] : Array Value)[0]? = some (.int .i64 0)); have u1 := (blk_cell HG.out 1).trans (rfl : (#[Value.int .i64 0, .int .i64 4, .slice A known.length c] : Array Value)[1]? = some (.int .i64 4)); have u2 := (blk_cell HG.out 2).trans (rfl : (#[Value.int .i64 0, .int .i64 4, .slice A known.length c] : Array Value)[2]? = some (.slice A known.length c)); clear ho hb hb0 hg hnew)
    | ((with_reducible refine gate_dst (N := 12) rfl ?_); (try (refine gate_guard (by rfl) ?_; dsimp only)); refine Kd.R_lit (Kd.int .i64) (w0 := w) w.heap.size 3 rfl (N := 12) rfl (xs := ([0, 1, 2] : List Int)) (inner := [.int .i64 0, .int .i64 1, .int .i64 2]) (ok := fun _ => True) (okp := fun _ => True) (by first | (go_simp; done) | (go_simp; rfl)) (Reps.front (c := [.int .i64 0]) rfl rfl (Reps.front (c := [.int .i64 1]) rfl rfl (Reps.front (c := [.int .i64 2]) rfl rfl (Reps.none _ _) rfl) rfl) rfl) (fun _ hk => hk) trivial HB.out HB.out.size (by simp) ?_; intro v u28 ho hb0 hg hnew; have hb := (⟨hg.os, hg.tape, hg.output, hg.size, fun k hk => hg.block k hk (by simp)⟩ : Below _ _ _); obtain ⟨b2, d2, rfl⟩ := Kd.R_slice ho; have L2 := Aside0.mk ho; have J2 := Aside0.mk (Kd.C_below (Kd.R_reads' K2.out).2.2 hb); have M2 := Aside0.mk (Kd.R_reads' K2.out).2.1; replace HB := Aside0.mk (hb0); replace HC := Aside0.mk (Kd.C_below HC.out hb); replace HG := Aside0.mk ((hb.block g1 (blk_lt HG.out)).trans HG.out); (try clear u0 u1 u2); have u0 := (blk_cell HG.out 0).trans (rfl : (#[Value.int .i64 0, .int .i64 4, .slice A known.length c] : Array Value)[0]? = some (.int .i64 0)); have u1 := (blk_cell HG.out 1).trans (rfl : (#[Value.int .i64 0, .int .i64 4, .slice A known.length c] : Array Value)[1]? = some (.int .i64 4)); have u2 := (blk_cell HG.out 2).trans (rfl : (#[Value.int .i64 0, .int .i64 4, .slice A known.length c] : Array Value)[2]? = some (.slice A known.length c)); clear ho hb hb0 hg hnew)
    | ((with_reducible refine gate_dst (N := 18) rfl ?_); (try (refine gate_guard (by rfl) ?_; dsimp only)); refine Kd.R_lit (Kd.int .i64) (w0 := w) w.heap.size 3 rfl (N := 18) rfl (xs := ([0, 1] : List Int)) (inner := [.int .i64 0, .int .i64 1]) (ok := fun _ => True) (okp := fun _ => True) (by first | (go_simp; done) | (go_simp; rfl)) (Reps.front (c := [.int .i64 0]) rfl rfl (Reps.front (c := [.int .i64 1]) rfl rfl (Reps.none _ _) rfl) rfl) (fun _ hk => hk) trivial HB.out HB.out.size (by simp) ?_; intro v u38 ho hb0 hg hnew; have hb := (⟨hg.os, hg.tape, hg.output, hg.size, fun k hk => hg.block k hk (by simp)⟩ : Below _ _ _); obtain ⟨b3, d3, rfl⟩ := Kd.R_slice ho; have L3 := Aside0.mk ho; have J3 := Aside0.mk (Kd.C_below (Kd.R_reads' K3.out).2.2 hb); have M3 := Aside0.mk (Kd.R_reads' K3.out).2.1; replace HB := Aside0.mk (hb0); replace HC := Aside0.mk (Kd.C_below HC.out hb); replace HG := Aside0.mk ((hb.block g1 (blk_lt HG.out)).trans HG.out); (try clear u0 u1 u2); have u0 := (blk_cell HG.out 0).trans (rfl : (#[Value.int .i64 0, .int .i64 4, .slice A known.length c] : Array Value)[0]? = some (.int .i64 0)); have u1 := (blk_cell HG.out 1).trans (rfl : (#[Value.int .i64 0, .int .i64 4, .slice A known.length c] : Array Value)[1]? = some (.int .i64 4)); have u2 := (blk_cell HG.out 2).trans (rfl : (#[Value.int .i64 0, .int .i64 4, .slice A known.length c] : Array Value)[2]? = some (.slice A known.length c)); clear ho hb hb0 hg hnew)
    | ((with_reducible refine gate_dst (N := 24) rfl ?_); (try (refine gate_guard (by rfl) ?_; dsimp only)); refine Kd.R_lit (Kd.int .i64) (w0 := w) w.heap.size 3 rfl (N := 24) rfl (xs := ([0, 1] : List Int)) (inner := [.int .i64 0, .int .i64 1]) (ok := fun _ => True) (okp := fun _ => True) (by first | (go_simp; done) | (go_simp; rfl)) (Reps.front (c := [.int .i64 0]) rfl rfl (Reps.front (c := [.int .i64 1]) rfl rfl (Reps.none _ _) rfl) rfl) (fun _ hk => hk) trivial HB.out HB.out.size (by simp) ?_; intro v u48 ho hb0 hg hnew; have hb := (⟨hg.os, hg.tape, hg.output, hg.size, fun k hk => hg.block k hk (by simp)⟩ : Below _ _ _); obtain ⟨b4, d4, rfl⟩ := Kd.R_slice ho; have L4 := Aside0.mk ho; have J4 := Aside0.mk (Kd.C_below (Kd.R_reads' K4.out).2.2 hb); have M4 := Aside0.mk (Kd.R_reads' K4.out).2.1; replace HB := Aside0.mk (hb0); replace HC := Aside0.mk (Kd.C_below HC.out hb); replace HG := Aside0.mk ((hb.block g1 (blk_lt HG.out)).trans HG.out); (try clear u0 u1 u2); have u0 := (blk_cell HG.out 0).trans (rfl : (#[Value.int .i64 0, .int .i64 4, .slice A known.length c] : Array Value)[0]? = some (.int .i64 0)); have u1 := (blk_cell HG.out 1).trans (rfl : (#[Value.int .i64 0, .int .i64 4, .slice A known.length c] : Array Value)[1]? = some (.int .i64 4)); have u2 := (blk_cell HG.out 2).trans (rfl : (#[Value.int .i64 0, .int .i64 4, .slice A known.length c] : Array Value)[2]? = some (.slice A known.length c)); clear ho hb hb0 hg hnew)
    | (go_at_call 12; have hx := L4.out; clear hx; refine (ints_calls [0, 1] _ _ _ _ _ J4.out M4.out (Kd.R_reads' L4.out).2.2 (Kd.R_reads' L4.out).2.1).mono ?_; rintro e u47 ⟨rfl, hb⟩; replace HB := Aside0.mk (below_step HB.out hb); replace HC := Aside0.mk (Kd.C_below HC.out hb); replace HG := Aside0.mk ((hb.block g1 (blk_lt HG.out)).trans HG.out); (try clear u0 u1 u2); have u0 := (blk_cell HG.out 0).trans (rfl : (#[Value.int .i64 0, .int .i64 4, .slice A known.length c] : Array Value)[0]? = some (.int .i64 0)); have u1 := (blk_cell HG.out 1).trans (rfl : (#[Value.int .i64 0, .int .i64 4, .slice A known.length c] : Array Value)[1]? = some (.int .i64 4)); have u2 := (blk_cell HG.out 2).trans (rfl : (#[Value.int .i64 0, .int .i64 4, .slice A known.length c] : Array Value)[2]? = some (.slice A known.length c)); clear hb)
    | (go_at_call 12; have hx := L3.out; clear hx; refine (ints_calls [0, 1] _ _ _ _ _ J3.out M3.out (Kd.R_reads' L3.out).2.2 (Kd.R_reads' L3.out).2.1).mono ?_; rintro e u37 ⟨rfl, hb⟩; replace HB := Aside0.mk (below_step HB.out hb); replace HC := Aside0.mk (Kd.C_below HC.out hb); replace HG := Aside0.mk ((hb.block g1 (blk_lt HG.out)).trans HG.out); (try clear u0 u1 u2); have u0 := (blk_cell HG.out 0).trans (rfl : (#[Value.int .i64 0, .int .i64 4, .slice A known.length c] : Array Value)[0]? = some (.int .i64 0)); have u1 := (blk_cell HG.out 1).trans (rfl : (#[Value.int .i64 0, .int .i64 4, .slice A known.length c] : Array Value)[1]? = some (.int .i64 4)); have u2 := (blk_cell HG.out 2).trans (rfl : (#[Value.int .i64 0, .int .i64 4, .slice A known.length c] : Array Value)[2]? = some (.slice A known.length c)); clear hb)
    | (go_at_call 12; have hx := L2.out; clear hx; refine (ints_calls [0, 1, 2] _ _ _ _ _ J2.out M2.out (Kd.R_reads' L2.out).2.2 (Kd.R_reads' L2.out).2.1).mono ?_; rintro e u27 ⟨rfl, hb⟩; replace HB := Aside0.mk (below_step HB.out hb); replace HC := Aside0.mk (Kd.C_below HC.out hb); replace HG := Aside0.mk ((hb.block g1 (blk_lt HG.out)).trans HG.out); (try clear u0 u1 u2); have u0 := (blk_cell HG.out 0).trans (rfl : (#[Value.int .i64 0, .int .i64 4, .slice A known.length c] : Array Value)[0]? = some (.int .i64 0)); have u1 := (blk_cell HG.out 1).trans (rfl : (#[Value.int .i64 0, .int .i64 4, .slice A known.length c] : Array Value)[1]? = some (.int .i64 4)); have u2 := (blk_cell HG.out 2).trans (rfl : (#[Value.int .i64 0, .int .i64 4, .slice A known.length c] : Array Value)[2]? = some (.slice A known.length c)); clear hb)
    | (go_at_call 12; have hx := L1.out; clear hx; refine (ints_calls [0, 1] _ _ _ _ _ J1.out M1.out (Kd.R_reads' L1.out).2.2 (Kd.R_reads' L1.out).2.1).mono ?_; rintro e u17 ⟨rfl, hb⟩; replace HB := Aside0.mk (below_step HB.out hb); replace HC := Aside0.mk (Kd.C_below HC.out hb); replace HG := Aside0.mk ((hb.block g1 (blk_lt HG.out)).trans HG.out); (try clear u0 u1 u2); have u0 := (blk_cell HG.out 0).trans (rfl : (#[Value.int .i64 0, .int .i64 4, .slice A known.length c] : Array Value)[0]? = some (.int .i64 0)); have u1 := (blk_cell HG.out 1).trans (rfl : (#[Value.int .i64 0, .int .i64 4, .slice A known.length c] : Array Value)[1]? = some (.int .i64 4)); have u2 := (blk_cell HG.out 2).trans (rfl : (#[Value.int .i64 0, .int .i64 4, .slice A known.length c] : Array Value)[2]? = some (.slice A known.length c)); clear hb)
    | ((with_reducible refine gate_dst (N := 1) rfl ?_); refine zero_event 24 #[.int .i64 0, .int .i64 0, .slice none 0 0] rfl rfl (by first | (go_simp; done) | (go_simp; rfl)) ?_; intro g1 w2 hg hA hb; have HG1 := Aside0.mk (Nat.le_trans HB1.out.size hg); have HA1 := Aside0.mk hA; have HB2 := Aside0.mk (below_step HB1.out hb); have HR2 := Aside0.mk (Kd.R_below HR1.out hb); have z0 : w2.cell? ⟨g1, 0, none⟩ = some (.int .i64 0) := ((blk_cell hA 0).trans rfl); have z1 : w2.cell? ⟨g1, 1, none⟩ = some (.int .i64 0) := ((blk_cell hA 1).trans rfl); have z2 : w2.cell? ⟨g1, 2, none⟩ = some (.slice none 0 0) := ((blk_cell hA 2).trans rfl); have y0 := blk_frozen hA 0; have y1 := blk_frozen hA 1; have y2 := blk_frozen hA 2; have HL1 := Aside0.mk hg; have HB := Aside0.mk (below_set (v := .slice A known.length c) (j := 2) (below_set (v := .int .i64 4) (j := 1) (below_set (v := .int .i64 0) (j := 0) (below_step HB1.out hb) HG1.out) HG1.out) HG1.out); have hne : ∀ k, k < w1.heap.size → k ≠ g1 := (fun k hk he => by omega); have HC := Aside0.mk (Kd.R_reads' (Kd.R_far (p := ⟨g1, 2, none⟩) (Kd.R_far (p := ⟨g1, 1, none⟩) (Kd.R_far (p := ⟨g1, 0, none⟩) (Kd.R_below (Kd.R_mono (Kd.R_bound HR1.out) (fun k hk => hne k hk.2.2.1)) hb) (fun k hk => hk) (.int .i64 0)) (fun k hk => hk) (.int .i64 4)) (fun k hk => hk) (.slice A known.length c))).2.2; have HG := Aside0.mk (blk_put (blk_put (blk_put hA 0 (.int .i64 0) rfl) 1 (.int .i64 4) rfl) 2 (.slice A known.length c) rfl); clear hne hg hA hb))
  generalize ((w6.setCell ⟨g2, 0, none⟩ (.int .i64 0)).setCell ⟨g2, 1, none⟩ (.int .i64 4)).setCell ⟨g2, 2, none⟩ (.slice Aw known.length cw) = w7 at HW HRW7 HB7 ⊢
  have hR := HRW7.out
  obtain ⟨gb, capb, he, hbb, _, cells, hcl⟩ := Kd.R_form hR (by decide)
  injection he with he1 he2 he3
  subst he1
  subst he3
  obtain ⟨cs0, hl0, hM0, hc0, hf0⟩ := Kd.R_elem hR z43 0 (by decide) (by decide)
  obtain ⟨cs1, hl1, hM1, hc1, hf1⟩ := Kd.R_elem hR z43 1 (by decide) (by decide)
  obtain ⟨v1, v2, rfl, r1, r2⟩ := k43_openM hM0
  obtain ⟨v3, v4, rfl, r3, r4⟩ := k43_openM hM1
  have r1 : Kd.R k47 47 w7 _ _ v1 kIns0 := r1
  have r2 : (Kd.int .i64).R 3 w7 _ _ v2 [1] := r2
  have r3 : Kd.R k47 47 w7 _ _ v3 kIns1 := r3
  have r4 : (Kd.int .i64).R 3 w7 _ _ v4 [] := r4
  obtain ⟨ga, capa, rfl, _, _, _, _⟩ := Kd.R_form r1 (by decide)
  obtain ⟨An, cn, rfl⟩ := Kd.R_slice r2
  obtain ⟨Ac, cc, rfl⟩ := Kd.R_slice r3
  obtain ⟨Am, cm, rfl⟩ := Kd.R_slice r4
  have hca : 5 ≤ capa := (Kd.R_reads' r1).2.1
  have q1 : w7.cell? ⟨gb, 1, none⟩ = some (.slice (some ⟨ga, 0, none⟩) 5 capa) := hc0 1 _ rfl
  have f1 : w7.frozen? ⟨gb, 1, none⟩ = false := hf0 1
  have t2 : w7.cell? ⟨g2, 2, none⟩ = some (.slice (some ⟨gb, 0, none⟩) known.length cw) := (blk_cell HW.out 2).trans rfl
  obtain ⟨i0, hi, hzz⟩ := Option.map_eq_some_iff.1 info47
  simp only [Prod.mk.injEq] at hzz
  have hcut := cut_from (P := Try.prog) 41 47 .i64 Try.underlying41 hi 8 hzz.2.1 (some ⟨ga, 0, none⟩) 5 capa 2 (by omega) (by omega)
  have hnc : ¬ capa = (2 : Int).toNat := by simp; omega
  rw [if_neg hnc] at hcut
  have hcut2 : ∀ W : World, (Instr.slice 41 (.slice (some ⟨ga, 0, none⟩) 5 capa) (some (.int .i64 2)) none none).run Try.prog W = .ok (.slice (some ⟨ga, 16, none⟩) 3 (capa - 2)) W := hcut
  have hkl : known.length = 2 := rfl
  have HCW : Aside0 (Kd.C k43 (w7.setCell ⟨gb, 1, none⟩ (.slice (some ⟨ga, 16, none⟩) 3 (capa - 2))).drew (some ⟨gb, 0, none⟩) 2 knownWant) := ⟨by
    have hset := blk_set hcl 1 (.slice (some ⟨ga, 16, none⟩) 3 (capa - 2))
    have hset8 : (w7.setCell ⟨gb, 1, none⟩ (.slice (some ⟨ga, 16, none⟩) 3 (capa - 2))).drew.heap[gb]? = some (.cells (cells.setIfInBounds 1 (.slice (some ⟨ga, 16, none⟩) 3 (capa - 2))) 43 (0, 0)) := hset
    have hsz : 1 < cells.size := by
      have h := (blk_cell hcl 1).symm.trans q1
      exact (Array.getElem?_eq_some_iff.mp h).1
    have same : ∀ i, i ≠ 1 → ∀ u, w7.cell? ⟨gb, i, none⟩ = some u → (w7.setCell ⟨gb, 1, none⟩ (.slice (some ⟨ga, 16, none⟩) 3 (capa - 2))).drew.cell? ⟨gb, i, none⟩ = some u := fun i hi u hu => by
      rw [blk_cell hset8, Array.getElem?_setIfInBounds, if_neg (Ne.symm hi)]
      exact (blk_cell hcl i).symm.trans hu
    have c1' : (w7.setCell ⟨gb, 1, none⟩ (.slice (some ⟨ga, 16, none⟩) 3 (capa - 2))).drew.cell? ⟨gb, 1, none⟩ = some (.slice (some ⟨ga, 16, none⟩) 3 (capa - 2)) := by
      rw [blk_cell hset8, Array.getElem?_setIfInBounds, if_pos rfl, if_pos hsz]
    have x1 := (Kd.R_reads' (Kd.R_drew (Kd.R_far r1 (p := ⟨gb, 1, none⟩) (fun k hk => hk.2) (.slice (some ⟨ga, 16, none⟩) 3 (capa - 2))))).2.2
    have x2 := (Kd.R_reads' (Kd.R_drew (Kd.R_far r2 (p := ⟨gb, 1, none⟩) (fun k hk => hk.2) (.slice (some ⟨ga, 16, none⟩) 3 (capa - 2)))))
    have x3 := (Kd.R_reads' (Kd.R_drew (Kd.R_far r3 (p := ⟨gb, 1, none⟩) (fun k hk => hk.2) (.slice (some ⟨ga, 16, none⟩) 3 (capa - 2)))))
    have x4 := (Kd.R_reads' (Kd.R_drew (Kd.R_far r4 (p := ⟨gb, 1, none⟩) (fun k hk => hk.2) (.slice (some ⟨ga, 16, none⟩) 3 (capa - 2)))))
    have y1 := Kd.C_drop (c := capa) (m := 2) x1 (by decide) hca
    rw [if_neg (by omega)] at y1
    have y1' : Kd.C k47 (w7.setCell ⟨gb, 1, none⟩ (.slice (some ⟨ga, 16, none⟩) 3 (capa - 2))).drew (some ⟨ga, 16, none⟩) (kIns0.drop 2).length (kIns0.drop 2) := y1
    have m0 := k43_mk _ (⟨0, kIns0.drop 2, [1]⟩ : S43) (A1 := some ⟨ga, 16, none⟩) (c1 := capa - 2) (by show 3 ≤ capa - 2; omega) y1' x2.2.1 x2.2.2
    have m1 := k43_mk _ (⟨9, kIns1, []⟩ : S43) x3.2.1 x3.2.2 x4.2.1 x4.2.2
    refine ⟨rfl, by omega, fun _ => ⟨⟨gb, 0, none⟩, rfl, fun j p hj => ?_⟩⟩
    have hj2 : j < knownWant.length := (List.getElem?_eq_some_iff.mp hj).1
    have hj3 : j = 0 ∨ j = 1 := by simp [knownWant] at hj2; omega
    rcases hj3 with rfl | rfl
    · have hp : (⟨0, kIns0.drop 2, [1]⟩ : S43) = p := by simpa [knownWant] using hj
      subst hp
      refine ⟨_, rfl, m0, fun i u hu => ?_⟩
      rw [add_plain]
      have hi3 : i < 3 := (List.getElem?_eq_some_iff.mp hu).1
      rcases (by omega : i = 0 ∨ i = 1 ∨ i = 2) with rfl | rfl | rfl
      · exact same _ (by omega) u (hc0 0 u hu)
      · cases hu; exact c1'
      · exact same _ (by omega) u (hc0 2 u hu)
    · have hp : (⟨9, kIns1, []⟩ : S43) = p := by simpa [knownWant] using hj
      subst hp
      refine ⟨_, rfl, m1, fun i u hu => ?_⟩
      rw [add_plain]
      exact same _ (by show 1 * 3 + i ≠ 1; omega) u (hc1 i u hu)⟩
  have HB8 := Aside0.mk (below_drew1 (below_set (v := .slice (some ⟨ga, 16, none⟩) 3 (capa - 2)) (j := 1) (below_step HBk.out HB7.out) hbb))
  have HW8 := Aside0.mk (show (w7.setCell ⟨gb, 1, none⟩ (.slice (some ⟨ga, 16, none⟩) 3 (capa - 2))).drew.heap[g2]? = _ from blk_far HW.out (fun he => by have h1 := HG2.out; have h2 := Kd.R_lt HRW.out gb (by simp [Value.ownBlock]); have he' : g2 = gb := he; omega) _)
  clear hR hcl hc0 hc1 hf0 hf1 hM0 hM1 r1 r2 r3 r4 hl0 hl1
  go_region_with (fail)
  all_goals (
    generalize (w7.setCell ⟨gb, 1, none⟩ (.slice (some ⟨ga, 16, none⟩) 3 (capa - 2))).drew = w8 at HCW HB8 HW8 ⊢
    clear q1 f1 t2 hcut hcut2
    have HC8 := Aside0.mk (Kd.C_below HCo.out HB8.out)
    have HG8 := (HB8.out.block g1 (blk_lt HGo.out)).trans HGo.out
    have u0 := (blk_cell HG8 0).trans (rfl : (#[Value.int .i64 0, .int .i64 4, .slice A known.length c] : Array Value)[0]? = some (.int .i64 0))
    have u1 := (blk_cell HG8 1).trans (rfl : (#[Value.int .i64 0, .int .i64 4, .slice A known.length c] : Array Value)[1]? = some (.int .i64 4))
    have u2 := (blk_cell HG8 2).trans (rfl : (#[Value.int .i64 0, .int .i64 4, .slice A known.length c] : Array Value)[2]? = some (.slice A known.length c))
    have t0 : w8.cell? ⟨g2, 0, none⟩ = some (.int .i64 0) := (blk_cell HW8.out 0).trans rfl
    have t1 : w8.cell? ⟨g2, 1, none⟩ = some (.int .i64 4) := (blk_cell HW8.out 1).trans rfl
    have t2 : w8.cell? ⟨g2, 2, none⟩ = some (.slice (some ⟨gb, 0, none⟩) known.length cw) := (blk_cell HW8.out 2).trans rfl
    have HFW : Aside0 (FitC knownWant) := ⟨by rw [← HRUN.out]; exact fit_run known_fit V⟩
    have HCR := Aside0.mk (Kd.R_reads' HR1.out).2.1
    have HCW2 := Aside0.mk (Kd.R_reads' HRW7.out).2.1
    have HBw := Aside0.mk (below_step HBo.out HB8.out)
    clear K1 K2 K3 K4 K5 K6 L1 L2 L3 L4 J1 J2 J3 J4 M1 M2 M3 M4 HRW7 HRW HB7 HW HBk HG2 HG2w HC HG HB HBo HCo HGo HR1 HR2 HA1 HG1 HB1 HB2 HL1 HG8 HB8 HW8 A1 A2 A3 A4 A5 A6
    go_wp2_with fail
    go_region_with (first
      | (go_at_call 16; refine (run_calls 0 4 A c known V _ (Kd.C_below HC8.out (below_drew1 (Below.refl _ w8))) known_fit HV.out).mono ?_; rw [HRUN.out]; rintro e w9 ⟨v, rfl, ho, hb0⟩; have hb := below_step (below_drew1 (Below.refl _ w8)) hb0; obtain ⟨Ar, cr, rfl⟩ := Kd.R_slice ho; have HRR := Aside0.mk ho; have HBR := Aside0.mk hb; have HCWR := Aside0.mk (Kd.C_below HCW.out hb); replace t0 := pw_cell_below hb t0; replace t1 := pw_cell_below hb t1; replace t2 := pw_cell_below hb t2; clear ho hb hb0)
      | (go_at_call 17; refine (regs_calls 0 4 knownWant HFW.out Ar (some ⟨gb, 0, none⟩) cr cw _ (Kd.R_reads' HRR.out).2.2 (Kd.R_reads' HRR.out).2.1 HCWR.out HCW2.out).mono ?_; rintro e w10 ⟨rfl, hb0⟩; have HBS := Aside0.mk (below_step HBR.out hb0); clear hb0))
    all_goals (
      go_wp2_with fail
      go_ret
      exact ⟨rfl, below_step HBw.out HBS.out⟩))
end Go.Proofs.Ytklknkfoafdgpaa.LiveShown2
