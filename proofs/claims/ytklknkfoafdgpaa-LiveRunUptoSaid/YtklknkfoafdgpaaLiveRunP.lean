/- What Run makes of a code, in plain words; the variables of its walk. -/
import Derived.Test.YtklknkfoafdgpaaLiveCopied
import Derived.Test.YtklknkfoafdgpaaLiveAft
namespace Go.Proofs.Ytklknkfoafdgpaa.LiveRunP
open Go.RowKit Go.Proofs.YtklknkfoafdgpaaW.PrintWords Go.Proofs.YtklknkfoafdgpaaW.PrintLast Go.Proofs.YtklknkfoafdgpaaW.PrintMore
open Go.Proofs.Ytklknkfoafdgpaa.PLiveKnown Go.Proofs.Ytklknkfoafdgpaa.LiveT Go.Proofs.Ytklknkfoafdgpaa.LiveB Go.Proofs.Ytklknkfoafdgpaa.LiveSet Go.Proofs.Ytklknkfoafdgpaa.LiveAhead Go.Proofs.Ytklknkfoafdgpaa.LiveEnd Go.Proofs.Ytklknkfoafdgpaa.LiveInv Go.Proofs.Ytklknkfoafdgpaa.LiveSettled Go.Proofs.Ytklknkfoafdgpaa.LiveCopied Go.Proofs.Ytklknkfoafdgpaa.LiveAft
set_option linter.unusedVariables false
set_option linter.unusedSimpArgs false

/-- What stays of a block. -/
def runB (n : Nat) (V : Nat → RS) (b : S43) : S43 := ⟨b.f0, strip iOf b.f1 (endd n V b.f2), b.f2⟩
def runBs (bs : List S43) (V : Nat → RS) : List S43 := bs.map (runB bs.length V)
theorem runBs_length (bs : List S43) (V : Nat → RS) : (runBs bs V).length = bs.length := by simp [runBs]
theorem runBs_take (bs : List S43) (V : Nat → RS) (b : Nat) (hb : b < bs.length) : (runBs bs V).take (b + 1) = (runBs bs V).take b ++ [runB bs.length V (rd_T43 bs b)] := by
  have hg : rd_T43 bs b = bs[b] := by simp [rd_T43, List.getD_eq_getElem?_getD, hb]
  rw [hg, List.take_add_one, List.getElem?_eq_getElem (by rw [runBs_length]; exact hb)]
  simp [runBs]
/-- The instructions that stay, up to a place. -/
def pickTo (ins : List S47) (fk : Nat → Bool) (i : Nat) : List S47 := ((List.range i).filter fk).map fun (k : Nat) => rd_T47 ins (k : Int)
theorem pickTo_succ (ins : List S47) (fk : Nat → Bool) (i : Nat) : pickTo ins fk (i + 1) = pickTo ins fk i ++ (if fk i = true then [rd_T47 ins i] else []) := by
  simp only [pickTo, List.range_succ, List.filter_append, List.map_append, List.filter_cons, List.filter_nil]
  split <;> simp_all
theorem pickTo_length (ins : List S47) (fk : Nat → Bool) (i : Nat) : (pickTo ins fk i).length ≤ i := by
  simp only [pickTo, List.length_map]
  exact Nat.le_trans (List.length_filter_le _ _) (by simp)
theorem rd47_succ (x : S47) (l : List S47) (i : Nat) : rd_T47 (x :: l) ((i + 1 : Nat) : Int) = rd_T47 l (i : Int) := by
  simp only [rd_T47, Int.toNat_natCast, List.getD_eq_getElem?_getD, List.getElem?_cons_succ]
theorem pick_strip (ins : List S47) (E : RS) (fk : Nat → Bool) (h : ∀ i, i < ins.length → fk i = !idle (iOf (rd_T47 ins i)) (back ((ins.drop (i + 1)).map iOf) E)) : pickTo ins fk ins.length = strip iOf ins E := by
  induction ins generalizing fk with
  | nil => rfl
  | cons x l ih =>
    have h0 := h 0 (by simp)
    have h1 := ih (fun i => fk (i + 1)) (fun i hi => by
      have := h (i + 1) (by simp; omega)
      rw [rd47_succ] at this
      simpa using this)
    have e : pickTo (x :: l) fk (x :: l).length = (if fk 0 = true then [x] else []) ++ pickTo l (fun i => fk (i + 1)) l.length := by
      simp only [pickTo, List.length_cons, List.range_succ_eq_map, List.filter_cons, List.filter_map]
      split
      · simp only [List.map_cons, List.map_map, List.singleton_append]
        congr 1
      · simp only [List.map_map, List.nil_append]
        apply List.map_congr_left
        intro i _
        exact rd47_succ x l i
    rw [e, h1, h0]
    have hr : rd_T47 (x :: l) ((0 : Nat) : Int) = x := rfl
    rw [hr]
    simp only [List.drop_succ_cons, List.drop_zero, strip]
    cases hd : idle (iOf x) (back (l.map iOf) E)
    · simp
    · simp

/-- A row of yes and no. -/
def KS (w : World) (g n : Nat) (f : Nat → Bool) : Prop := ∃ cs : Array Value, w.heap[g]? = some (.cells cs 4 (0, 0)) ∧ cs.size = n ∧ ∀ i, i < n → cs[i]? = some (.bool (f i))
section
variable {w w1 : World} {g n : Nat} {f : Nat → Bool}
theorem ks_below (h : KS w g n f) (hb : Below w.heap.size w w1) : KS w1 g n f := by
  obtain ⟨cs, h1, h2, h3⟩ := h
  exact ⟨cs, (hb.block g (blk_lt h1)).trans h1, h2, h3⟩
theorem ks_grown {r : Option Nat} (h : KS w g n f) (hg : w.grownBy w1 r) (hne : some g ≠ r) : KS w1 g n f := by
  obtain ⟨cs, h1, h2, h3⟩ := h
  exact ⟨cs, blk_grown h1 hg hne, h2, h3⟩
theorem ks_lt (h : KS w g n f) : g < w.heap.size := by
  obtain ⟨cs, h1, h2, h3⟩ := h
  exact blk_lt h1
theorem ks_cell (h : KS w g n f) (i : Nat) (hi : i < n) : w.cell? ⟨g, i, none⟩ = some (.bool (f i)) := by
  obtain ⟨cs, h1, h2, h3⟩ := h
  exact (blk_cell h1 i).trans (h3 i hi)
theorem ks_frozen (h : KS w g n f) (i : Nat) : w.frozen? ⟨g, i, none⟩ = false := by
  obtain ⟨cs, h1, h2, h3⟩ := h
  exact blk_frozen h1 i
theorem ks_put (h : KS w g n f) (i : Nat) (t : Bool) : KS (w.setCell ⟨g, i, none⟩ (.bool t)) g n (fun k => if k = i then t else f k) := by
  obtain ⟨cs, h1, h2, h3⟩ := h
  refine ⟨_, blk_set h1 i _, by simp [h2], fun k hk => ?_⟩
  rw [Array.getElem?_setIfInBounds]
  by_cases he : i = k
  · subst he
    rw [if_pos rfl, if_pos (by omega)]
    simp
  · rw [if_neg he, h3 k hk]
    simp [Ne.symm he]
end
theorem infoBool : (Try.prog.info? 4).map (fun i => (i.zero, i.size, i.bytes)) = some (some (.bool false), 1, 1) := by kernel_rfl
def madeB (n : Nat) : Array Value := madeCells #[.bool false] (n * 1)
theorem makeB_run (n : Nat) (h : n ≤ 281474976710656) (W : World) : (Instr.makeSlice 53 (.int .i64 n) (.int .i64 n)).run Try.prog W = .ok (.slice (some ⟨W.heap.size, 0, none⟩) n n) (W.alloc (.cells (madeB n) 4)) := by
  obtain ⟨i0, hi, hzz⟩ := Option.map_eq_some_iff.1 infoBool
  simp only [Prod.mk.injEq] at hzz
  obtain ⟨hz0, hz1, hz2⟩ := hzz
  have h1 := run_make (P := Try.prog) W 53 4 i0 _ Try.underlying53 hi hz0 .i64 .i64 (n : Int) (n : Int) (by omega) (by omega) (by rw [hz2]; omega) (by omega)
  rw [hz1] at h1
  exact h1
theorem ks_made (W1 : World) (g n : Nat) (h : W1.heap[g]? = some (.cells (madeB n) 4 (0, 0))) : KS W1 g n (fun _ => false) := by
  refine ⟨madeB n, h, by rw [madeB, size_madeCells, Nat.mul_one], fun i hi => ?_⟩
  simp [madeB, madeCells, hi, Nat.mod_one]

/-- The variables of Run: the code, the answer, what is made so far, the flow. -/
structure RW (w W : World) (g1 g2 g4 gf gw : Nat) (fn rg : Int) (Ab : Option Addr) (cb : Nat) (bs : List S43) (V : Nat → RS) (v : Value) (ys : List S43) : Prop where
  below : Below w.heap.size w W
  b2 : W.heap[g2]? = some (.cells #[.int .i64 0, .int .i64 0, .slice none 0 0] 24 (0, 0))
  b4 : W.heap[g4]? = some (.cells #[.int .i64 fn, .int .i64 rg, v] 24 (0, 0))
  fl : Flow W gf fn rg Ab cb gw bs V
  own : Kd.R k43 43 W w.heap.size (fun k => k ≠ g2 ∧ k ≠ g4 ∧ k ≠ gf ∧ k ≠ gw) v ys
  n24 : g2 ≠ g4
  nf4 : gf ≠ g4
  nw4 : gw ≠ g4
  l2 : w.heap.size ≤ g2
  l4 : w.heap.size ≤ g4
section
variable {w W W1 : World} {g1 g2 g4 gf gw : Nat} {fn rg : Int} {Ab : Option Addr} {cb : Nat} {bs : List S43} {V : Nat → RS} {v v1 : Value} {ys ys1 : List S43}
theorem RW.next (h : RW w W g1 g2 g4 gf gw fn rg Ab cb bs V v ys) (hb : Below W.heap.size W W1) : RW w W1 g1 g2 g4 gf gw fn rg Ab cb bs V v ys :=
  ⟨below_step h.below hb, (hb.block g2 (blk_lt h.b2)).trans h.b2, (hb.block g4 (blk_lt h.b4)).trans h.b4, h.fl.below hb, Kd.R_below h.own hb, h.n24, h.nf4, h.nw4, h.l2, h.l4⟩
theorem RW.push (h : RW w W g1 g2 g4 gf gw fn rg Ab cb bs V v ys) (hC : Kd.C k43 w Ab bs.length bs) (hR : Kd.R k43 43 W1 w.heap.size (fun k => k ≠ g2 ∧ k ≠ g4 ∧ k ≠ gf ∧ k ≠ gw) v1 ys1) (hb : Below w.heap.size w W1) (hg : W.grownBy W1 v.ownBlock) : RW w (W1.setCell ⟨g4, 2, none⟩ v1) g1 g2 g4 gf gw fn rg Ab cb bs V v1 ys1 := by
  have e2 : some g2 ≠ v.ownBlock := fun he => (h.own.1 g2 he.symm).1 rfl
  have e4 : some g4 ≠ v.ownBlock := fun he => (h.own.1 g4 he.symm).2.1 rfl
  have ef : some gf ≠ v.ownBlock := fun he => (h.own.1 gf he.symm).2.2.1 rfl
  have ew : some gw ≠ v.ownBlock := fun he => (h.own.1 gw he.symm).2.2.2 rfl
  have hb2 : Below w.heap.size w (W1.setCell ⟨g4, 2, none⟩ v1) := hb.setCell h.l4 _
  refine ⟨hb2, blk_far (blk_grown h.b2 hg e2) h.n24 _, blk_put (blk_grown h.b4 hg e4) 2 _ rfl, ⟨blk_far (blk_grown h.fl.blk hg ef) h.nf4 _, Kd.C_below hC hb2, ?_, h.fl.regs⟩, Kd.R_far hR (fun k hk => hk.2.1) _, h.n24, h.nf4, h.nw4, h.l2, h.l4⟩
  exact ws_grown (ws_grown h.fl.ws hg ew) (grown_set W1 g4 2 v1) (by intro he; cases he; exact h.nw4 rfl)
end
/-- The variables of a block's way back: the set, what is kept, the block. -/
structure LW (wr W : World) (gs gk g6 n : Nat) (S : RS) (fk : Nat → Bool) (c6 : Array Value) : Prop where
  vw : VW wr W gs S
  ks : KS W gk n fk
  b6 : W.heap[g6]? = some (.cells c6 43 (0, 0))
  nk : gk ≠ gs
  n6k : g6 ≠ gk
  n6s : g6 ≠ gs
  lk : wr.heap.size ≤ gk
section
variable {wr W W1 : World} {gs gk g6 n : Nat} {S T : RS} {fk fk1 : Nat → Bool} {c6 : Array Value}
theorem LW.next (h : LW wr W gs gk g6 n S fk c6) (hb : Below W.heap.size W W1) : LW wr W1 gs gk g6 n S fk c6 :=
  ⟨h.vw.next hb, ks_below h.ks hb, (hb.block g6 (blk_lt h.b6)).trans h.b6, h.nk, h.n6k, h.n6s, h.lk⟩
theorem LW.putS (h : LW wr W gs gk g6 n S fk c6) (hA : At W1 gs T) (hg : W.grownBy W1 (some gs)) : LW wr W1 gs gk g6 n T fk c6 :=
  ⟨h.vw.put hA hg, ks_grown h.ks hg (by intro he; cases he; exact h.nk rfl), blk_grown h.b6 hg (by intro he; cases he; exact h.n6s rfl), h.nk, h.n6k, h.n6s, h.lk⟩
theorem LW.putK (h : LW wr W gs gk g6 n S fk c6) (hK : KS W1 gk n fk1) (hg : W.grownBy W1 (some gk)) : LW wr W1 gs gk g6 n S fk1 c6 :=
  ⟨⟨h.vw.below.grown hg h.vw.below.size (fun k hk => by cases hk; exact h.lk), at_grown h.vw.at_ hg (by intro he; cases he; exact h.nk rfl), h.vw.lt⟩, hK, blk_grown h.b6 hg (by intro he; cases he; exact h.n6k rfl), h.nk, h.n6k, h.n6s, h.lk⟩
end
/-- The variables of a block's way forth: what is kept, the new block. -/
structure NW (wr W : World) (gk g10 n : Nat) (fk : Nat → Bool) (pc : Int) (vI vN : Value) (zs : List S47) (nx : List Int) : Prop where
  below : Below wr.heap.size wr W
  b10 : W.heap[g10]? = some (.cells #[.int .i64 pc, vI, vN] 43 (0, 0))
  rI : Kd.R k47 47 W wr.heap.size (fun k => k ≠ g10 ∧ some k ≠ vN.ownBlock) vI zs
  rN : Kd.R (Kd.int .i64) 3 W wr.heap.size (fun k => vN.ownBlock = some k) vN nx
  nN : ∀ k, vN.ownBlock = some k → k ≠ g10
  ks : KS W gk n fk
  lk : gk < wr.heap.size
  lt : wr.heap.size ≤ g10
section
variable {wr W W1 : World} {gk g10 n : Nat} {fk : Nat → Bool} {pc : Int} {vI vN v1 : Value} {zs zs1 : List S47} {nx : List Int}
theorem NW.next (h : NW wr W gk g10 n fk pc vI vN zs nx) (hb : Below W.heap.size W W1) : NW wr W1 gk g10 n fk pc vI vN zs nx :=
  ⟨below_step h.below hb, (hb.block g10 (blk_lt h.b10)).trans h.b10, Kd.R_below h.rI hb, Kd.R_below h.rN hb, h.nN, ks_below h.ks hb, h.lk, h.lt⟩
theorem NW.push (h : NW wr W gk g10 n fk pc vI vN zs nx) (hR : Kd.R k47 47 W1 wr.heap.size (fun k => k ≠ g10 ∧ some k ≠ vN.ownBlock) v1 zs1) (hb : Below wr.heap.size wr W1) (hg : W.grownBy W1 vI.ownBlock) : NW wr (W1.setCell ⟨g10, 1, none⟩ v1) gk g10 n fk pc v1 vN zs1 nx := by
  have e10 : some g10 ≠ vI.ownBlock := fun he => (h.rI.1 g10 he.symm).1 rfl
  have ek : some gk ≠ vI.ownBlock := fun he => by have := Kd.R_base h.rI gk he.symm; have := h.lk; omega
  refine ⟨hb.setCell h.lt _, blk_put (blk_grown h.b10 hg e10) 1 _ rfl, Kd.R_far hR (fun k hk => hk.1) _, ?_, h.nN, ?_, h.lk, h.lt⟩
  · exact Kd.R_far (Kd.R_grown h.rN hg (fun k hk he => (h.rI.1 k he.symm).2 hk.symm)) (fun k hk => h.nN k hk) _
  · exact ks_grown (ks_grown h.ks hg ek) (grown_set W1 g10 1 v1) (by intro he; cases he; have := h.lk; have := h.lt; omega)
end
/-- A code whose lists a copy can hold. -/
structure FitC (bs : List S43) : Prop where
  blocks : bs.length * 56 ≤ 140737488355328
  ins : ∀ b, b < bs.length → (rd_T43 bs b).f1.length * 96 ≤ 140737488355328
  next : ∀ b, b < bs.length → (rd_T43 bs b).f2.length * 8 ≤ 140737488355328
  each : ∀ b, b < bs.length → ∀ i, i < (rd_T43 bs b).f1.length → Fit47 (rd_T47 (rd_T43 bs b).f1 i)
end Go.Proofs.Ytklknkfoafdgpaa.LiveRunP
