/- digest: one of the 64 rounds. -/
import Derived.Test.YtcgajjaaiablkaaShaP
import Derived.Test.YtcgajjaaiablkaaPRelaySealedx1
import Derived.Lib.SliceRun
import Derived.WalkSmall
import Derived.Deep.QuietTactic
import Derived.BigQuiet
namespace Go.Proofs.Ytcgajjaaiablkaa.ShaRound
open Go.RowKit Go.Proofs.YtcgajjaaiablkaaW.PrintWords Go.Proofs.YtcgajjaaiablkaaW.PrintLast Go.Proofs.YtcgajjaaiablkaaW.PrintMore
open Go.Proofs.Ytcgajjaaiablkaa.PRelaySealed Go.Proofs.Ytcgajjaaiablkaa.ShaP
set_option linter.unusedVariables false
set_option linter.unusedSimpArgs false

theorem box_event_ {ops : Array Oper} {rest : List Oper} {o : Oper} {a : Act} {Q : Exit → Act → World → Prop} {W : World} (t : TypeId) (cs : Array Value) (hgd : o.guard = none) {N : Tmp} (_hd : o.dst = some N) (hrun : (execOp a.eval o).run Try.prog W = .ok (.value (.pointer (some ⟨W.heap.size, 0, none⟩))) (W.alloc (.cells cs t (0, 0))))
    (h : ∀ g w1, W.heap.size ≤ g → w1.heap[g]? = some (.cells cs t (0, 0)) → Below W.heap.size W w1 → wpList Try.prog ops Q rest (a.put o.dst (.pointer (some ⟨g, 0, none⟩))) w1) : wpList Try.prog ops Q (o :: rest) a W :=
  box_event hgd (N := N) _hd hrun (fun g hg w1 h1 h2 => h g w1 (Nat.le_of_eq hg.symm) h1 h2)
theorem rotr_calls (x n : Int) (w : World) (h0 : 0 ≤ n) (h1 : n ≤ 32) : Calls Try.prog 105 #[.int .u32 x, .int .u64 n] w fun e w' => e = .returned (.int .u32 (ro x n)) ∧ Below w.heap.size w w' := by
  have hw : IntKind.u64.wrap (32 - n) = 32 - n := by simp [IntKind.wrap, IntKind.bits, IntKind.signed]; omega
  refine (digest_rotr.calls x n (ro x n) w ?_).mono (fun e w' hh => ⟨hh.1, hh.2.below⟩)
  unfold digest_rotr.f ro
  rw [if_pos h0, hw, if_pos (by omega)]

theorem info110 : (Try.prog.info? 110).map (·.size) = some 8 := by kernel_rfl
set_option maxHeartbeats 8000000 in
set_option maxRecDepth 100000 in
theorem round_calls (a b c d e f g h kw : Int) (w : World) :
    Calls Try.prog 107 #[.agg #[.int .u32 a, .int .u32 b, .int .u32 c, .int .u32 d, .int .u32 e, .int .u32 f, .int .u32 g, .int .u32 h], .int .u32 kw] w fun en w' => en = .returned (.agg (u32s (rnd a b c d e f g h kw))) ∧ Below w.heap.size w w' := by
  go_enter Try.func107, Try.ntmps107
  go_wp2_with (first
    | ((with_reducible refine gate_dst (N := 2) rfl ?_); refine box_event_ 110 #[.int .u32 a, .int .u32 b, .int .u32 c, .int .u32 d, .int .u32 e, .int .u32 f, .int .u32 g, .int .u32 h] rfl rfl (by first | (go_simp; done) | (go_simp; rfl)) ?_; intro g2 w2 hg2 hA2 hb2; have HA2 := Aside0.mk hA2; have HB2 := Aside0.mk hb2; clear hg2 hA2 hb2)
    | ((with_reducible refine gate_dst (N := 4) rfl ?_); refine box_event_ 110 #[.int .u32 0, .int .u32 0, .int .u32 0, .int .u32 0, .int .u32 0, .int .u32 0, .int .u32 0, .int .u32 0] rfl rfl (by first | (go_simp; done) | (go_simp; rfl)) ?_; intro g4 w4 hg4 hA4 hb4; have HA4 := Aside0.mk hA4; have HB4 := Aside0.mk hb4; have HG4 := Aside0.mk hg4; clear hg4 hA4 hb4))
  have HA2' := Aside0.mk ((HB4.out.block g2 (blk_lt HA2.out)).trans HA2.out)
  have u0 : w4.cell? ⟨g2, 0, none⟩ = some (.int .u32 a) := (blk_cell HA2'.out 0).trans rfl
  have u1 : w4.cell? ⟨g2, 1, none⟩ = some (.int .u32 b) := (blk_cell HA2'.out 1).trans rfl
  have u2 : w4.cell? ⟨g2, 2, none⟩ = some (.int .u32 c) := (blk_cell HA2'.out 2).trans rfl
  have u3 : w4.cell? ⟨g2, 3, none⟩ = some (.int .u32 d) := (blk_cell HA2'.out 3).trans rfl
  have u4 : w4.cell? ⟨g2, 4, none⟩ = some (.int .u32 e) := (blk_cell HA2'.out 4).trans rfl
  have u5 : w4.cell? ⟨g2, 5, none⟩ = some (.int .u32 f) := (blk_cell HA2'.out 5).trans rfl
  have u6 : w4.cell? ⟨g2, 6, none⟩ = some (.int .u32 g) := (blk_cell HA2'.out 6).trans rfl
  have u7 : w4.cell? ⟨g2, 7, none⟩ = some (.int .u32 h) := (blk_cell HA2'.out 7).trans rfl
  go_quiet (fail)
  have HB := Aside0.mk (pw_below_drewN (Below.refl w4.heap.size w4) nq)
  clear u0 u1 u2 u3 u4 u5 u6 u7
  go_upto_region 4 with (first
    | (go_at_call 105; refine (rotr_calls _ _ _ (by decide) (by decide)).mono ?_; rintro e u ⟨rfl, hb⟩; replace HB := Aside0.mk (below_step HB.out hb); clear hb))
  go_wp2_with ((with_reducible refine gate_store (t := 110) (p := 4) rfl ?_); refine put_row rfl rfl rfl (g := g4) (u32s [_, _, _, _, _, _, _, _]) rfl rfl ((HB.out.block g4 (blk_lt HA4.out)).trans HA4.out) info110 rfl (all_one _ _) ?_; intro W1 h1 h2; have HR := Aside0.mk h1; have HW := Aside0.mk h2; clear h1 h2)
  refine bodyPost_ret (results_cell_row rfl _ _ g4 110 _ (0, 0) _ rfl HR.out Try.underlying110 rfl info110) rfl ?_
  refine ⟨rfl, HW.out.below (below_step (below_step HB2.out HB4.out) HB.out) ?_⟩
  have := HB2.out.size
  have := HG4.out
  omega
theorem roundL_calls (x : List Int) (hx : x.length = 8) (kw : Int) (w : World) : Calls Try.prog 107 #[.agg (u32s x), .int .u32 kw] w fun en w' => en = .returned (.agg (u32s (rndL x kw))) ∧ Below w.heap.size w w' := by
  have h := round_calls (rd x 0) (rd x 1) (rd x 2) (rd x 3) (rd x 4) (rd x 5) (rd x 6) (rd x 7) kw w
  have e : u32s x = #[.int .u32 (rd x 0), .int .u32 (rd x 1), .int .u32 (rd x 2), .int .u32 (rd x 3), .int .u32 (rd x 4), .int .u32 (rd x 5), .int .u32 (rd x 6), .int .u32 (rd x 7)] := congrArg u32s (eight x hx)
  rw [e]
  exact h
theorem info124 : (Try.prog.info? 124).map (·.size) = some 64 := by kernel_rfl

set_option maxHeartbeats 8000000 in
set_option maxRecDepth 100000 in
theorem first_calls (w : World) : Calls Try.prog 79 #[] w fun en w' => en = .returned (.agg (u32s iv)) ∧ Below w.heap.size w w' := by
  go_enter Try.func79, Try.ntmps79
  go_wp2_with (first
    | ((with_reducible refine gate_dst (N := 0) rfl ?_); refine box_event_ 110 (u32s (List.replicate 8 0)) rfl rfl (by first | (go_simp; done) | (go_simp; rfl)) ?_; intro g4 w4 hg4 hA4 hb4; have HA4 := Aside0.mk hA4; have HB4 := Aside0.mk hb4; have HG4 := Aside0.mk hg4; clear hg4 hA4 hb4)
    | ((with_reducible refine gate_store (t := 110) (p := 0) rfl ?_); refine put_row rfl rfl rfl (g := g4) (u32s iv) rfl rfl HA4.out info110 rfl (all_one _ _) ?_; intro W1 h1 h2; have HR := Aside0.mk h1; have HW := Aside0.mk h2; clear h1 h2))
  refine bodyPost_ret (results_cell_row rfl _ _ g4 110 _ (0, 0) _ rfl HR.out Try.underlying110 rfl info110) rfl ?_
  exact ⟨rfl, HW.out.below HB4.out HG4.out⟩
set_option maxHeartbeats 8000000 in
set_option maxRecDepth 100000 in
theorem table_calls (w : World) : Calls Try.prog 106 #[] w fun en w' => en = .returned (.agg (u32s kT)) ∧ Below w.heap.size w w' := by
  go_enter Try.func106, Try.ntmps106
  go_wp2_with (first
    | ((with_reducible refine gate_dst (N := 0) rfl ?_); refine box_event_ 124 (u32s (List.replicate 64 0)) rfl rfl (by first | (go_simp; done) | (go_simp; rfl)) ?_; intro g4 w4 hg4 hA4 hb4; have HA4 := Aside0.mk hA4; have HB4 := Aside0.mk hb4; have HG4 := Aside0.mk hg4; clear hg4 hA4 hb4)
    | ((with_reducible refine gate_store (t := 124) (p := 0) rfl ?_); refine put_row rfl rfl rfl (g := g4) (u32s kT) rfl rfl HA4.out info124 rfl (all_one _ _) ?_; intro W1 h1 h2; have HR := Aside0.mk h1; have HW := Aside0.mk h2; clear h1 h2))
  refine bodyPost_ret (results_cell_row rfl _ _ g4 124 _ (0, 0) _ rfl HR.out Try.underlying124 rfl info124) rfl ?_
  exact ⟨rfl, HW.out.below HB4.out HG4.out⟩
end Go.Proofs.Ytcgajjaaiablkaa.ShaRound
