/- Kept: a handed code is as it was handed. -/
import Derived.Test.YtklknkfoafdgpaaLiveMark
import Derived.Test.YtklknkfoafdgpaaPLiveKnownx13
namespace Go.Proofs.Ytklknkfoafdgpaa.LiveKept
open Go.RowKit Go.Proofs.YtklknkfoafdgpaaW.PrintWords Go.Proofs.YtklknkfoafdgpaaW.PrintLast Go.Proofs.YtklknkfoafdgpaaW.PrintMore
open Go.Proofs.Ytklknkfoafdgpaa.PLiveKnown Go.Proofs.Ytklknkfoafdgpaa.LiveT Go.Proofs.Ytklknkfoafdgpaa.LiveB Go.Proofs.Ytklknkfoafdgpaa.LiveInv Go.Proofs.Ytklknkfoafdgpaa.LiveSet Go.Proofs.Ytklknkfoafdgpaa.LiveAhead Go.Proofs.Ytklknkfoafdgpaa.LiveEnd Go.Proofs.Ytklknkfoafdgpaa.LiveSettled Go.Proofs.Ytklknkfoafdgpaa.LiveCopied Go.Proofs.Ytklknkfoafdgpaa.LiveAft Go.Proofs.Ytklknkfoafdgpaa.LiveRunP Go.Proofs.Ytklknkfoafdgpaa.LiveSame Go.Proofs.Ytklknkfoafdgpaa.LiveFit Go.Proofs.Ytklknkfoafdgpaa.LiveEvt Go.Proofs.Ytklknkfoafdgpaa.LiveRefP Go.Proofs.Ytklknkfoafdgpaa.LiveHandP Go.Proofs.Ytklknkfoafdgpaa.LiveHandS Go.Proofs.Ytklknkfoafdgpaa.LiveHandB Go.Proofs.Ytklknkfoafdgpaa.LiveHandC Go.Proofs.Ytklknkfoafdgpaa.LiveMark
set_option linter.unusedVariables false
set_option linter.unusedSimpArgs false

/-- A loop that finds nothing. -/
theorem loop_true {β : Type} (n : Nat) (g : Nat → Int → Option β) (r : β) (hstop : Ev (fun k => g k (n : Int)) r) (hstep : ∀ i, i < n → Ev (fun k => g k ((i + 1 : Nat) : Int)) r → Ev (fun k => g k (i : Int)) r) : Ev (fun k => g k 0) r := by
  have key : ∀ d i, n - i = d → i ≤ n → Ev (fun k => g k (i : Int)) r := by
    intro d
    induction d with
    | zero =>
      intro i hd hi
      obtain rfl : i = n := by omega
      exact hstop
    | succ d ih =>
      intro i hd hi
      exact hstep i (by omega) (ih (i + 1) (by omega) (by omega))
  exact key _ 0 rfl (Nat.zero_le _)
theorem kopnds (l : List S82) (hl : l.length ≤ 9223372036854775807) : Ev (fun k => portagekit_sameOpnds.f k l l) true := by
  refine Ev.congr (f := fun k => portagekit_sameOpnds.l0 k l l 0) (fun k => by unfold portagekit_sameOpnds.f; rw [if_pos rfl]) ?_
  refine loop_true l.length (fun k i => portagekit_sameOpnds.l0 k l l i) true (Ev.step (fun k => by simp only [portagekit_sameOpnds.l0]; rw [if_neg (by omega)]) (Ev.now _)) (fun i hi hr => Ev.step (fun k => ?_) hr)
  simp only [portagekit_sameOpnds.l0]
  rw [if_pos (by omega), if_pos (by omega), if_pos (by omega), if_neg (by simp), wrap_nat i _ hi hl]
theorem kshapes (l : List S78) (hl : l.length ≤ 9223372036854775807) (hs : ∀ k, k < l.length → (rd_T78 l k).f2.length ≤ 9223372036854775807) : Ev (fun k => portagekit_sameShapes.f k l l) true := by
  refine Ev.congr (f := fun k => portagekit_sameShapes.l0 k l l 0) (fun k => by unfold portagekit_sameShapes.f; rw [if_pos rfl]) ?_
  refine loop_true l.length (fun k i => portagekit_sameShapes.l0 k l l i) true (Ev.step (fun k => by simp only [portagekit_sameShapes.l0]; rw [if_neg (by omega)]) (Ev.now _)) (fun i hi hr => ?_)
  refine Ev.step (f := fun k => (portagekit_sameOpnds.f k (rd_T78 l i).f2 (rd_T78 l i).f2).bind fun t => if t = true then portagekit_sameShapes.l0 k l l ((i + 1 : Nat) : Int) else some false) (fun k => ?_) (Ev.bind (kopnds _ (hs i hi)) (Ev.congr (fun k => by rw [if_pos rfl]) hr))
  simp only [portagekit_sameShapes.l0]
  rw [if_pos (by omega), if_pos (by omega), if_pos (by omega), if_pos trivial, if_pos trivial, wrap_nat i _ hi hl]
theorem kins (l : List S47) (hl : l.length ≤ 9223372036854775807) (hf : ∀ k, k < l.length → Fit47 (rd_T47 l k)) : Ev (fun k => portagekit_sameIns.f k l l) true := by
  refine Ev.congr (f := fun k => portagekit_sameIns.l0 k l l 0) (fun k => by unfold portagekit_sameIns.f; rw [if_pos rfl]) ?_
  refine loop_true l.length (fun k i => portagekit_sameIns.l0 k l l i) true (Ev.step (fun k => by simp only [portagekit_sameIns.l0]; rw [if_neg (by omega)]) (Ev.now _)) (fun i hi hr => ?_)
  have hx := hf i hi
  generalize hX : rd_T47 l (i : Int) = x at *
  refine Ev.step (f := fun k => portagekit_sameIns.j1 k l l i false x.f0 x.f1 x.f2 x.f3 x.f4 x.f5 x.f6 x.f7 x.f0 x.f1 x.f2 x.f3 x.f4 x.f5 x.f6 x.f7) (fun k => ?_) ?_
  · simp only [portagekit_sameIns.l0]
    rw [if_pos (by omega), if_pos (by omega), if_pos (by omega), hX, if_pos trivial, if_pos trivial, if_pos trivial, if_pos trivial, if_pos trivial, bne_self_eq_false]
  · refine Ev.step (f := fun k => (portagekit_sameOpnds.f k x.f3 x.f3).bind fun t => if t = true then ((portagekit_sameShapes.f k x.f7 x.f7).bind fun u => if u = true then portagekit_sameIns.l0 k l l ((i + 1 : Nat) : Int) else some false) else some false) (fun k => ?_) ?_
    · simp only [portagekit_sameIns.j1]
      rw [if_neg (by decide), wrap_nat i _ hi hl]
    · refine Ev.bind (kopnds _ (by have := hx.args; omega)) (Ev.congr (fun k => by rw [if_pos rfl]) ?_)
      exact Ev.bind (kshapes _ (by have := hx.exits; omega) (fun k hk => by have := hx.slots k hk; omega)) (Ev.congr (fun k => by rw [if_pos rfl]) hr)
theorem kblocks (bs : List S43) (hf : FitC bs) : Ev (fun k => portagekit_sameBlocks.f k bs bs) true := by
  have hl : bs.length ≤ 9223372036854775807 := by have := hf.blocks; omega
  refine Ev.congr (f := fun k => portagekit_sameBlocks.l0 k bs bs 0) (fun k => by unfold portagekit_sameBlocks.f; rw [if_pos rfl]) ?_
  refine loop_true bs.length (fun k i => portagekit_sameBlocks.l0 k bs bs i) true (Ev.step (fun k => by simp only [portagekit_sameBlocks.l0]; rw [if_neg (by omega)]) (Ev.now _)) (fun b hb hr => ?_)
  have h1 := hf.ins b hb
  have h2 := hf.next b hb
  have h3 := hf.each b hb
  refine Ev.step (f := fun k => (portagekit_sameIns.f k (rd_T43 bs b).f1 (rd_T43 bs b).f1).bind fun t => portagekit_sameBlocks.j1 k bs bs b (!t)) (fun k => ?_) (Ev.bind (kins _ (by omega) h3) ?_)
  · simp only [portagekit_sameBlocks.l0]
    rw [if_pos (by omega), if_pos (by omega), if_pos (by omega), if_pos trivial, if_pos trivial]
  · refine Ev.step (f := fun k => portagekit_sameBlocks.l1 k bs bs b 0) (fun k => by simp only [portagekit_sameBlocks.j1]; rw [if_neg (by decide)]) ?_
    refine loop_true (rd_T43 bs b).f2.length (fun k i => portagekit_sameBlocks.l1 k bs bs b i) true (Ev.step (f := fun k => portagekit_sameBlocks.l0 k bs bs ((b + 1 : Nat) : Int)) (fun k => ?_) hr) (fun i hi hq => Ev.step (fun k => ?_) hq)
    · simp only [portagekit_sameBlocks.l1]
      rw [if_pos (by omega), if_pos (by omega), if_neg (by omega), wrap_nat b _ hb hl]
    · simp only [portagekit_sameBlocks.l1]
      rw [if_pos (by omega), if_pos (by omega), if_pos (by omega), if_pos (by omega), if_pos (by omega), if_pos (by omega), if_pos trivial, wrap_nat i _ hi (by omega)]
theorem blocks33_calls (bs : List S43) (hf : FitC bs) (A A1 : Option Addr) (c c1 : Nat) (w : World) (h : Kd.C k43 w A bs.length bs) (hc : bs.length ≤ c) (h1 : Kd.C k43 w A1 bs.length bs) (hc1 : bs.length ≤ c1) :
    Calls Try.prog 33 #[.slice A bs.length c, .slice A1 bs.length c1] w fun e w' => e = .returned (.bool true) ∧ Below w.heap.size w w' := by
  obtain ⟨k, hk⟩ := (kblocks bs hf).rounds
  exact portagekit_sameBlocks.calls k A c bs A1 c1 bs true w h hc h1 hc1 hk
/-- What a handed code holds is the code. -/
theorem HK.code {w0 W : World} {gh : Nat} {fn rg : Int} {A : Option Addr} {n c : Nat} {vO vS vN vI : Value} {bs : List S43} (h : HK w0 W gh fn rg A n c vO vS vN vI bs) : Kd.R k43 43 W w0.heap.size (fun _ => True) (.slice A bs.length c) bs := by
  have hl : (bs ++ m43).length = bs.length + 16 := by rw [List.length_append]; rfl
  have h2 := Kd.R_take (m := bs.length) h.B (by omega)
  rwa [List.take_left' rfl] at h2

set_option maxHeartbeats 8000000 in
set_option maxRecDepth 100000 in
theorem kept_calls {w0 w : World} {gh : Nat} {fn rg : Int} {A : Option Addr} {n c : Nat} {vO vS vN vI : Value} {bs : List S43} (h : HK w0 w gh fn rg A n c vO vS vN vI bs) (hf : FitH bs) (hfc : FitC bs) (Ab : Option Addr) (cb : Nat) (hC : Kd.C k43 w Ab bs.length bs) (hcb : bs.length ≤ cb) :
    Calls Try.prog 13 #[.pointer (some ⟨gh, 0, none⟩), .agg #[.int .i64 fn, .int .i64 rg, .slice Ab bs.length cb]] w fun e w' => e = .returned (.bool true) ∧ Below w.heap.size w w' := by
  have hlen : n = bs.length := h.len
  subst hlen
  have HH := Aside0.mk h
  have HC := Aside0.mk hC
  have HCB := Aside0.mk hcb
  have hbm : bs.length + 16 ≤ 9223372036854775807 := by have := hf.blocks; omega
  have HFT := Aside0.mk hf
  have HFC := Aside0.mk hfc
  have hR := Kd.R_reads' h.B
  have hcut := cut_row 22 43 Try.underlying22 info43 A (bs.length + 16) c bs.length (by omega) hR.2.1
  clear h hC hcb hf hfc hR
  go_enter Try.func13, Try.ntmps13
  go_wp2_with (first
    | ((with_reducible refine gate_dst (N := 3) rfl ?_); refine LiveRunW.zero_event 24 #[.int .i64 fn, .int .i64 rg, .slice Ab bs.length cb] rfl rfl (by first | (go_simp; done) | (go_simp; rfl)) ?_; intro g3 w1 hg3 hA3 hb1; have HA3 := Aside0.mk hA3; have HB1 := Aside0.mk hb1; clear hg3 hA3 hb1))
  have HB2 := Aside0.mk (below_step HB1.out (below_drew1 (Below.refl _ w1)))
  have H2 : Aside0 (w1.drew.heap[g3]? = some (.cells #[.int .i64 fn, .int .i64 rg, .slice Ab bs.length cb] 24 (0, 0))) := ⟨HA3.out⟩
  clear HB1 HA3
  go_region_with (first
    | (go_at_call 32; refine (marked32_calls (HH.out.next HB2.out) HFT.out).mono ?_; rintro e w3 ⟨rfl, hb3⟩; have HB3 := Aside0.mk (below_step HB2.out hb3); have H3 := Aside0.mk ((hb3.block g3 (blk_lt H2.out)).trans H2.out); have u2 : w3.cell? ⟨g3, 2, none⟩ = some (.slice Ab bs.length cb) := ((blk_cell H3.out 2).trans rfl); have h7 : w3.cell? ⟨gh, 7, none⟩ = some (.slice A (bs.length + 16) c) := ((blk_cell (HH.out.next HB3.out).blk 7).trans rfl); clear hb3)
    | (go_at_call 33; refine (blocks33_calls bs HFC.out A Ab c cb _ (Kd.R_reads' (HK.code (HH.out.next HB3.out))).2.2 (Kd.R_reads' (HK.code HH.out)).2.1 (Kd.C_below HC.out HB3.out) HCB.out).mono ?_; rintro e w4 ⟨rfl, hb4⟩; have HB4 := Aside0.mk (below_step HB3.out hb4); clear hb4))
  all_goals (
    go_wp2_with fail
    go_ret
    exact ⟨rfl, HB4.out⟩)
end Go.Proofs.Ytklknkfoafdgpaa.LiveKept
