/- The program's copied: an instruction in memory of its own. -/
import Derived.Test.YtklknkfoafdgpaaLiveSettled
namespace Go.Proofs.Ytklknkfoafdgpaa.LiveCopied
open Go.RowKit Go.Proofs.YtklknkfoafdgpaaW.PrintWords Go.Proofs.YtklknkfoafdgpaaW.PrintLast Go.Proofs.YtklknkfoafdgpaaW.PrintMore
open Go.Proofs.Ytklknkfoafdgpaa.PLiveKnown Go.Proofs.Ytklknkfoafdgpaa.LiveT Go.Proofs.Ytklknkfoafdgpaa.LiveB Go.Proofs.Ytklknkfoafdgpaa.LiveSet Go.Proofs.Ytklknkfoafdgpaa.LiveAhead Go.Proofs.Ytklknkfoafdgpaa.LiveEnd Go.Proofs.Ytklknkfoafdgpaa.LiveSettled
set_option linter.unusedVariables false
set_option linter.unusedSimpArgs false

/-- An instruction whose lists a copy can hold. -/
structure Fit47 (x : S47) : Prop where
  args : x.f3.length * 16 ≤ 140737488355328
  exits : x.f7.length * 40 ≤ 140737488355328
  slots : ∀ k, k < x.f7.length → (rd_T78 x.f7 k).f2.length * 16 ≤ 140737488355328
def zero47 : Array Value := #[.int .i64 0, .int .i64 0, .int .i64 0, .slice none 0 0, .int .i64 0, .int .i64 0, .int .i64 0, .slice none 0 0]
def row47 (x : S47) (v3 v7 : Value) : Array Value := #[.int .i64 x.f0, .int .i64 x.f1, .int .i64 x.f2, v3, .int .i64 x.f4, .int .i64 x.f5, .int .i64 x.f6, v7]
/-- The variables of copied: the instruction, the answer. -/
structure CW (w W : World) (g1 gc : Nat) (x : S47) (v3 v7 : Value) (ys : List S78) : Prop where
  below : Below w.heap.size w W
  b1 : W.heap[g1]? = some (.cells (row47 x v3 v7) 47 (0, 0))
  bc : W.heap[gc]? = some (.cells zero47 47 (0, 0))
  r3 : Kd.R k82 82 W w.heap.size (fun k => v3.ownBlock = some k) v3 x.f3
  n3 : ∀ k, v3.ownBlock = some k → k ≠ g1 ∧ k ≠ gc
  r7 : Kd.R k78 78 W w.heap.size (fun k => k ≠ g1 ∧ k ≠ gc ∧ some k ≠ v3.ownBlock) v7 ys
  ne : g1 ≠ gc
  l1 : w.heap.size ≤ g1
  lc : w.heap.size ≤ gc
section
variable {w W W1 W2 : World} {g1 gc : Nat} {x : S47} {v3 v7 v8 : Value} {ys ys1 : List S78}
theorem CW.next (h : CW w W g1 gc x v3 v7 ys) (hb : Below W.heap.size W W1) : CW w W1 g1 gc x v3 v7 ys :=
  ⟨below_step h.below hb, (hb.block g1 (blk_lt h.b1)).trans h.b1, (hb.block gc (blk_lt h.bc)).trans h.bc, Kd.R_below h.r3 hb, h.n3, Kd.R_below h.r7 hb, h.ne, h.l1, h.lc⟩
theorem CW.push (h : CW w W g1 gc x v3 v7 ys) (hR : Kd.R k78 78 W1 w.heap.size (fun k => k ≠ g1 ∧ k ≠ gc ∧ some k ≠ v3.ownBlock) v8 ys1) (hb : Below w.heap.size w W1) (hg : W.grownBy W1 v7.ownBlock) : CW w (W1.setCell ⟨g1, 7, none⟩ v8) g1 gc x v3 v8 ys1 := by
  have e1 : some g1 ≠ v7.ownBlock := fun he => (h.r7.1 g1 he.symm).1 rfl
  have ec : some gc ≠ v7.ownBlock := fun he => (h.r7.1 gc he.symm).2.1 rfl
  refine ⟨hb.setCell h.l1 _, blk_put (blk_grown h.b1 hg e1) 7 _ rfl, blk_far (blk_grown h.bc hg ec) (Ne.symm h.ne) _, ?_, h.n3, Kd.R_far hR (fun k hk => hk.1) _, h.ne, h.l1, h.lc⟩
  exact Kd.R_far (Kd.R_grown h.r3 hg (fun k hk he => (h.r7.1 k he.symm).2.2 hk.symm)) (fun k hk => (h.n3 k hk).1) _
end
theorem put47_blk {w : World} {g : Nat} {cs : Array Value} (h : w.heap[g]? = some (.cells cs 47 (0, 0))) (hc : cs = zero47) (b0 b1 b2 b3 b4 b5 b6 b7 : Value) : ((((((((w.setCell ⟨g, 0, none⟩ b0).setCell ⟨g, 1, none⟩ b1).setCell ⟨g, 2, none⟩ b2).setCell ⟨g, 3, none⟩ b3).setCell ⟨g, 4, none⟩ b4).setCell ⟨g, 5, none⟩ b5).setCell ⟨g, 6, none⟩ b6).setCell ⟨g, 7, none⟩ b7).heap[g]? = some (.cells #[b0, b1, b2, b3, b4, b5, b6, b7] 47 (0, 0)) := by
  subst hc
  exact blk_put (blk_set (blk_set (blk_set (blk_set (blk_set (blk_set (blk_set h 0 _) 1 _) 2 _) 3 _) 4 _) 5 _) 6 _) 7 _ (chain8 _ _ _ _ _ _ _ _ _ _ _ _ _ _ _ _)
theorem k82_KM {W : World} {x : S82} {cs : List Value} (base : Nat) (ok : Nat → Prop) (h : k82.K W x cs) : k82.M W base ok x cs := by
  rw [k82_open h]
  exact k82_mkM W base ok x
theorem box47_zero_event {ops : Array Oper} {rest : List Oper} {o : Oper} {a : Act} {Q : Exit → Act → World → Prop} {W : World} (hgd : o.guard = none) {N : Tmp} (_hd : o.dst = some N) (ho : o.op = .alloc 47)
    (h : ∀ g w1, W.heap.size ≤ g → w1.heap[g]? = some (.cells zero47 47 (0, 0)) → Below W.heap.size W w1 → wpList Try.prog ops Q rest (a.put o.dst (.pointer (some ⟨g, 0, none⟩))) w1) : wpList Try.prog ops Q (o :: rest) a W := by
  refine box_event hgd (N := N) _hd (cs := zero47) (t := 47) ?_ (fun g hg w1 h1 h2 => h g w1 (Nat.le_of_eq hg.symm) h1 h2)
  simp only [execOp, ho, zero47]
  go_simp
  first | done | rfl

set_option maxHeartbeats 8000000 in
set_option maxRecDepth 100000 in
theorem copied_calls (x : S47) (A3 : Option Addr) (c3 : Nat) (A7 : Option Addr) (c7 : Nat) (w : World) (h : RIn w x A3 c3 A7 c7) (hf : Fit47 x) :
    Calls Try.prog 36 #[v47 x A3 c3 A7 c7] w fun e w' => ∃ v3 v7, e = .returned (.agg (row47 x v3 v7)) ∧ Kd.R k82 82 w' w.heap.size (fun _ => True) v3 x.f3 ∧ Kd.R k78 78 w' w.heap.size (fun k => some k ≠ v3.ownBlock) v7 x.f7 ∧ Below w.heap.size w w' := by
  have HX := Aside0.mk h
  have HF := Aside0.mk hf
  have hl3 := hf.args
  clear h hf
  go_enter Try.func36, Try.ntmps36
  go_wp2_with (first
    | ((with_reducible refine gate_dst (N := 1) rfl ?_); refine box47_event rfl rfl rfl rfl ?_; intro g1 w1 hg1 hA1 hb1; have HG1 := Aside0.mk hg1; have HA1 := Aside0.mk hA1; have HB1 := Aside0.mk hb1; clear hg1 hA1 hb1)
    | ((with_reducible refine gate_dst (N := 2) rfl ?_); refine box47_zero_event rfl rfl rfl ?_; intro gc w2 hgc hA2 hb2; have HG2 := Aside0.mk hgc; have HA2 := Aside0.mk hA2; have HA1b := Aside0.mk (at47_below HA1.out hb2); have HB2 := Aside0.mk (below_step HB1.out hb2); obtain ⟨u0, u1, u2, u3, u4, u5, u6, u7⟩ := cells47_of HA1b.out; clear hgc hA2 hb2)
    | (at_builtin; refine Kd.R_append_rows k82 (w0 := w) w.heap.size rfl (.const (.slice none 0 0)) (.tmp 7) 44 82 (.agg #[(.int .i64 0), (.int .i64 0)]) 16 rfl Try.underlying44 info82 rfl (by decide) (by omega) (.slice none 0 0) ([] : List S82) x.f3 _ _ _ (fun k => k ≠ g1 ∧ k ≠ gc) (fun _ => False) rfl rfl (Kd.R_nil _ _ _ _ _) (Kd.C_below HX.out.r3 HB2.out) (fun _ _ h => k82_KM _ _ h) (fun _ h => h.elim) (fun k hk => ⟨Nat.ne_of_gt (Nat.lt_of_lt_of_le (blk_lt HA1b.out) hk), Nat.ne_of_gt (Nat.lt_of_lt_of_le (blk_lt HA2.out) hk)⟩) HB2.out HB2.out.size (by simp; omega) ?_; intro v3 w3 ho hb hg hat; rw [List.nil_append] at ho; obtain ⟨Av, cv, rfl⟩ := Kd.R_slice ho; have HO3 := Aside0.mk ho; have HB3 := Aside0.mk hb; have HG3 := Aside0.mk hg; have u3' := ((hg.block g1 (blk_lt HA1b.out) (by simp [Value.ownBlock]))).trans HA1b.out; have t3 : w3.cell? ⟨g1, 3, none⟩ = some (.slice A3 x.f3.length c3) := ((blk_cell u3' 3).trans rfl); have t7 : w3.cell? ⟨g1, 7, none⟩ = some (.slice A7 x.f7.length c7) := ((blk_cell u3' 7).trans rfl); have ft3 := blk_frozen u3' 3; have ft7 := blk_frozen u3' 7; have HA13 := Aside0.mk u3'; clear u3' ho hb hg hat))
  have H0 : Aside0 (CW w ((w3.setCell ⟨g1, 3, none⟩ (.slice Av x.f3.length cv)).setCell ⟨g1, 7, none⟩ (.slice none 0 0)) g1 gc x (.slice Av x.f3.length cv) (.slice none 0 0) (x.f7.take 0)) := ⟨by
    have n1 : g1 < w2.heap.size := blk_lt HA1b.out
    have nc : gc < w2.heap.size := blk_lt HA2.out
    have hne : g1 ≠ gc := by have := blk_lt HA1.out; have := HG2.out; omega
    have hn3 : ∀ k, (Value.slice Av x.f3.length cv).ownBlock = some k → k ≠ g1 ∧ k ≠ gc := fun k hk => HO3.out.1 k hk
    have hc3 : w3.heap[gc]? = some (.cells zero47 47 (0, 0)) := (HG3.out.block gc nc (by simp [Value.ownBlock])).trans HA2.out
    refine ⟨(HB3.out.setCell (p := ⟨g1, 3, none⟩) HG1.out _).setCell (p := ⟨g1, 7, none⟩) HG1.out _, blk_put (blk_put HA13.out 3 _ rfl) 7 _ rfl, blk_far (blk_far hc3 (Ne.symm hne) _) (Ne.symm hne) _, ?_, hn3, ?_, hne, HG1.out, Nat.le_trans HB1.out.size HG2.out⟩
    · exact Kd.R_far (Kd.R_far (Kd.R_reok rfl HO3.out (fun b hb => hb)) (fun k hk => (hn3 k hk).1) _) (fun k hk => (hn3 k hk).1) _
    · exact Kd.R_nil _ _ _ _ _⟩
  clear HG1 HA1 HB1 HG2 HA2 HA1b HB2 u0 u1 u2 u3 u4 u5 u6 u7 HO3 HB3 HG3 t3 t7 ft3 ft7 HA13
  have hmx7 : x.f7.length ≤ 9223372036854775807 := Kd.C_max HX.out.r7
  go_loopw [15] (fun v15 wi => ∃ (j : Nat) (v7 : Value), j ≤ x.f7.length ∧ v15 = .int .i64 j ∧ Aside0 (CW w wi g1 gc x (.slice Av x.f3.length cv) v7 (x.f7.take j))) (fun v15 _ => x.f7.length - (intOf v15).toNat)
  case atStart => exact ⟨0, _, by omega, rfl, H0⟩
  case round =>
    clear H0
    obtain ⟨j, v7, hj, rfl, HS⟩ := hrel
    obtain ⟨A7', c7', hv7⟩ := Kd.R_slice HS.out.r7
    subst hv7
    have hyl : (x.f7.take j).length = j := by rw [List.length_take]; omega
    by_cases hlt : j < x.f7.length
    · have hst : x.f7.take (j + 1) = x.f7.take j ++ [rd_T78 x.f7 j] := by
        have hg : rd_T78 x.f7 j = x.f7[j] := by simp [rd_T78, List.getD_eq_getElem?_getD, hlt]
        rw [hg, List.take_add_one, List.getElem?_eq_getElem hlt]
        rfl
      have hsl := HF.out.slots j hlt
      have hex := HF.out.exits
      generalize x.f7.take j = ys at *
      have HST := Aside0.mk hst
      obtain ⟨ad, A2, c2, e1, hx0, hx1, hx2, hC2⟩ := rd_shape HX.out.r7 HS.out.below j hlt
      subst e1
      have HC2 := Aside0.mk hC2
      generalize rd_T78 x.f7 j = p at *
      clear hst hC2
      have hlim : (ys.length + 1) * 40 ≤ 140737488355328 := by omega
      have HLIM := Aside0.mk hlim
      clear hyl hlim
      have N0 : Aside0 (g1 < wr.heap.size ∧ gc < wr.heap.size) := ⟨blk_lt HS.out.b1, blk_lt HS.out.bc⟩
      go_wp2_with (first
        | (refine alloc78_event rfl rfl rfl ?_; intro g8 w8 hg8 hA8 hb8; have HG8 := Aside0.mk hg8; have HA8 := Aside0.mk hA8; have HB8 := Aside0.mk (below_set (v := .slice A2 p.f2.length c2) (j := 2) (below_set (v := .int .i64 p.f1) (j := 1) (below_set (v := .int .i64 p.f0) (j := 0) hb8 hg8) hg8) hg8); have HA8b := Aside0.mk (blk_put (blk_put (blk_put hA8 0 (.int .i64 p.f0) rfl) 1 (.int .i64 p.f1) rfl) 2 (.slice A2 p.f2.length c2) rfl); have i0 := (blk_cell hA8 0).trans (rfl : #[Value.int .i64 0, .int .i64 0, .slice none 0 0][0]? = some (.int .i64 0)); have i1 := (blk_cell hA8 1).trans (rfl : #[Value.int .i64 0, .int .i64 0, .slice none 0 0][1]? = some (.int .i64 0)); have i2 := (blk_cell hA8 2).trans (rfl : #[Value.int .i64 0, .int .i64 0, .slice none 0 0][2]? = some (.slice none 0 0)); have j0 := blk_frozen hA8 0; have j1 := blk_frozen hA8 1; have j2 := blk_frozen hA8 2; replace hx0 := pw_cell_below hb8 hx0; replace hx1 := pw_cell_below hb8 hx1; replace hx2 := pw_cell_below hb8 hx2; clear hg8 hA8 hb8)
        | ((with_reducible refine gate_dst (N := 21) rfl ?_); at_builtin; refine Kd.R_append_rows k82 (w0 := wr) wr.heap.size rfl (.const (.slice none 0 0)) (.tmp 20) 44 82 (.agg #[(.int .i64 0), (.int .i64 0)]) 16 rfl Try.underlying44 info82 rfl (by decide) (by omega) (.slice none 0 0) ([] : List S82) p.f2 _ _ _ (fun k => k ≠ g8) (fun _ => False) rfl rfl (Kd.R_nil _ _ _ _ _) (Kd.C_below HC2.out (below_step HS.out.below HB8.out)) (fun _ _ h => k82_KM _ _ h) (fun _ h => h.elim) (fun k hk => Nat.ne_of_gt (Nat.lt_of_lt_of_le (blk_lt HA8b.out) hk)) HB8.out HB8.out.size (by simp; omega) ?_; intro v2 w9 ho hb hg hat; rw [List.nil_append] at ho; obtain ⟨Ab, cb, rfl⟩ := Kd.R_slice ho; have HO9 := Aside0.mk ho; have HB9 := Aside0.mk hb; have HA9 := Aside0.mk ((hg.block g8 (blk_lt HA8b.out) (by simp [Value.ownBlock])).trans HA8b.out); have HS9 := Aside0.mk (HS.out.next hb); clear i0 i1 i2 j0 j1 j2; have i0 : w9.cell? ⟨g8, 0, none⟩ = some (.int .i64 p.f0) := ((blk_cell HA9.out 0).trans rfl); have i1 : w9.cell? ⟨g8, 1, none⟩ = some (.int .i64 p.f1) := ((blk_cell HA9.out 1).trans rfl); have i2 : w9.cell? ⟨g8, 2, none⟩ = some (.slice A2 p.f2.length c2) := ((blk_cell HA9.out 2).trans rfl); have j2 := blk_frozen HA9.out 2; have t7 : w9.cell? ⟨g1, 7, none⟩ = some (.slice A7' ys.length c7') := ((blk_cell HS9.out.b1 7).trans rfl); have hne8 : ¬ g1 = g8 := (by have := N0.out.1; have := HG8.out; omega); clear ho hb hg hat)
        | ((with_reducible refine gate_dst (N := 27) rfl ?_); at_builtin; have BW := Aside0.mk (below_set (v := .slice Ab p.f2.length cb) (j := 2) HB9.out HG8.out); have SW := Aside0.mk (HS.out.next BW.out); refine Kd.R_append k78 (w0 := w) w.heap.size rfl (.tmp 24) (.tmp 26) 45 78 (.agg #[(.int .i64 0), (.int .i64 0), (.slice none 0 0)]) 40 rfl Try.underlying45 info78 rfl (by decide) (by omega) (.slice A7' ys.length c7') ys p [.int .i64 p.f0, .int .i64 p.f1, .slice Ab p.f2.length cb] (fun k => k ≠ g1 ∧ k ≠ gc ∧ some k ≠ (Value.slice Av x.f3.length cv).ownBlock) (fun k => wr.heap.size ≤ k) rfl (show _ = Value.slice (some ⟨(w9.setCell ⟨g8, 2, none⟩ (.slice Ab p.f2.length cb)).heap.size, 0, none⟩) 1 1 by rw [show (w9.setCell ⟨g8, 2, none⟩ (.slice Ab p.f2.length cb)).heap.size = w9.heap.size by simp]; rfl) ?aP ?aK ?aF SW.out.r7 SW.out.below SW.out.below.size HLIM.out ?_; (case aP => exact k78_mkM _ _ _ p (Kd.R_lower (Kd.R_reok rfl (Kd.R_far HO9.out (fun k hk => hk) _) (fun b hb => Kd.R_base HO9.out b hb)) HS.out.below.size)); (case aK => intro k hk; have hh := N0.out; exact ⟨⟨by omega, by omega, fun he => by have := Kd.R_lt HS.out.r3 k he.symm; omega⟩, fun he => by have := Kd.R_lt HS.out.r7 k he.symm; omega⟩); (case aF => intro k hk; have hh := N0.out; have h2 := BW.out.size; exact ⟨by omega, by omega, fun he => by have := Kd.R_lt HS.out.r3 k he.symm; omega⟩); intro v10 w10 ho hb hg hat; have HP := Aside0.mk (SW.out.push ho hb hg); obtain ⟨Ac, cc, rfl⟩ := Kd.R_slice ho; have hb1 := blk_grown SW.out.b1 hg (fun he => (SW.out.r7.1 g1 he.symm).1 rfl); have t7b : w10.cell? ⟨g1, 7, none⟩ = some (.slice A7' ys.length c7') := ((blk_cell hb1 7).trans rfl); have f7b := blk_frozen hb1 7; clear hb1 ho hb hg hat i0 i1 i2 j2 t7))
      go_roundw
      case rel => exact ⟨j + 1, _, by omega, by go_num, ⟨by rw [HST.out]; have hh := HP.out; rw [List.length_append, List.length_singleton] at hh; exact hh⟩⟩
      case measure => simp [intOf]; omega
    · obtain rfl : j = x.f7.length := by omega
      rw [List.take_length] at HS
      have t0 : wr.cell? ⟨g1, 0, none⟩ = some (.int .i64 x.f0) := (blk_cell HS.out.b1 0).trans rfl
      have t1 : wr.cell? ⟨g1, 1, none⟩ = some (.int .i64 x.f1) := (blk_cell HS.out.b1 1).trans rfl
      have t2 : wr.cell? ⟨g1, 2, none⟩ = some (.int .i64 x.f2) := (blk_cell HS.out.b1 2).trans rfl
      have t3 : wr.cell? ⟨g1, 3, none⟩ = some (.slice Av x.f3.length cv) := (blk_cell HS.out.b1 3).trans rfl
      have t4 : wr.cell? ⟨g1, 4, none⟩ = some (.int .i64 x.f4) := (blk_cell HS.out.b1 4).trans rfl
      have t5 : wr.cell? ⟨g1, 5, none⟩ = some (.int .i64 x.f5) := (blk_cell HS.out.b1 5).trans rfl
      have t6 : wr.cell? ⟨g1, 6, none⟩ = some (.int .i64 x.f6) := (blk_cell HS.out.b1 6).trans rfl
      have t7 : wr.cell? ⟨g1, 7, none⟩ = some (.slice A7' x.f7.length c7') := (blk_cell HS.out.b1 7).trans rfl
      have z0 : wr.cell? ⟨gc, 0, none⟩ = some (.int .i64 0) := (blk_cell HS.out.bc 0).trans rfl
      have z1 : wr.cell? ⟨gc, 1, none⟩ = some (.int .i64 0) := (blk_cell HS.out.bc 1).trans rfl
      have z2 : wr.cell? ⟨gc, 2, none⟩ = some (.int .i64 0) := (blk_cell HS.out.bc 2).trans rfl
      have z3 : wr.cell? ⟨gc, 3, none⟩ = some (.slice none 0 0) := (blk_cell HS.out.bc 3).trans rfl
      have z4 : wr.cell? ⟨gc, 4, none⟩ = some (.int .i64 0) := (blk_cell HS.out.bc 4).trans rfl
      have z5 : wr.cell? ⟨gc, 5, none⟩ = some (.int .i64 0) := (blk_cell HS.out.bc 5).trans rfl
      have z6 : wr.cell? ⟨gc, 6, none⟩ = some (.int .i64 0) := (blk_cell HS.out.bc 6).trans rfl
      have z7 : wr.cell? ⟨gc, 7, none⟩ = some (.slice none 0 0) := (blk_cell HS.out.bc 7).trans rfl
      have f0 := blk_frozen HS.out.bc 0
      have f1 := blk_frozen HS.out.bc 1
      have f2 := blk_frozen HS.out.bc 2
      have f3 := blk_frozen HS.out.bc 3
      have f4 := blk_frozen HS.out.bc 4
      have f5 := blk_frozen HS.out.bc 5
      have f6 := blk_frozen HS.out.bc 6
      have f7 := blk_frozen HS.out.bc 7
      go_wp2_with fail
      refine bodyPost_ret (results_cell_row rfl _ _ gc 47 _ (0, 0) _ rfl (put47_blk HS.out.bc rfl _ _ _ _ _ _ _ _) Try.underlying47 rfl (by kernel_rfl)) rfl ?_
      have hfar : ∀ k, (Value.slice Av x.f3.length cv).ownBlock = some k → k ≠ gc := fun k hk => (HS.out.n3 k hk).2
      refine ⟨_, _, rfl, Kd.R_mono (?_ : Kd.R k82 82 _ w.heap.size (fun k => (Value.slice Av x.f3.length cv).ownBlock = some k) _ _) (fun _ _ => trivial), Kd.R_mono (?_ : Kd.R k78 78 _ w.heap.size (fun k => k ≠ g1 ∧ k ≠ gc ∧ some k ≠ (Value.slice Av x.f3.length cv).ownBlock) _ _) (fun _ hk => hk.2.2), ?_⟩
      · exact Kd.R_far (Kd.R_far (Kd.R_far (Kd.R_far (Kd.R_far (Kd.R_far (Kd.R_far (Kd.R_far HS.out.r3 hfar _) hfar _) hfar _) hfar _) hfar _) hfar _) hfar _) hfar _
      · exact Kd.R_far (Kd.R_far (Kd.R_far (Kd.R_far (Kd.R_far (Kd.R_far (Kd.R_far (Kd.R_far HS.out.r7 (fun _ hk => hk.2.1) _) (fun _ hk => hk.2.1) _) (fun _ hk => hk.2.1) _) (fun _ hk => hk.2.1) _) (fun _ hk => hk.2.1) _) (fun _ hk => hk.2.1) _) (fun _ hk => hk.2.1) _) (fun _ hk => hk.2.1) _
      · exact below_set (below_set (below_set (below_set (below_set (below_set (below_set (below_set HS.out.below HS.out.lc) HS.out.lc) HS.out.lc) HS.out.lc) HS.out.lc) HS.out.lc) HS.out.lc) HS.out.lc
end Go.Proofs.Ytklknkfoafdgpaa.LiveCopied
