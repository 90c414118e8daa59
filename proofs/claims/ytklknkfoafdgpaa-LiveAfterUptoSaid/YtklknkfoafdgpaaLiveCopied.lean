/- The program's copied: an instruction in memory of its own. -/
import Derived.Test.YtklknkfoafdgpaaLiveSettled
namespace Go.Proofs.Ytklknkfoafdgpaa.LiveCopied
open Go.RowKit Go.Proofs.YtklknkfoafdgpaaW.PrintWords Go.Proofs.YtklknkfoafdgpaaW.PrintLast Go.Proofs.YtklknkfoafdgpaaW.PrintMore
open Go.Proofs.Ytklknkfoafdgpaa.PLiveKnown Go.Proofs.Ytklknkfoafdgpaa.LiveT Go.Proofs.Ytklknkfoafdgpaa.LiveB Go.Proofs.Ytklknkfoafdgpaa.LiveSet Go.Proofs.Ytklknkfoafdgpaa.LiveAhead Go.Proofs.Ytklknkfoafdgpaa.LiveEnd Go.Proofs.Ytklknkfoafdgpaa.LiveSettled
set_option linter.unusedVariables false
set_option linter.unusedSimpArgs false

/-- An instruction whose lists a copy can hold. -/
structure Fit47 (x : S47) : Prop where
  args : x.f3.length * 16 ≤ 140737488355328
  exits : x.f7.length * 40 ≤ 140737488355328
  slots : ∀ k, k < x.f7.length → (rd_T78 x.f7 k).f2.length * 16 ≤ 140737488355328
def zero47 : Array Value := #[.int .i64 0, .int .i64 0, .int .i64 0, .slice none 0 0, .int .i64 0, .int .i64 0, .int .i64 0, .slice none 0 0]
def row47 (x : S47) (v3 v7 : Value) : Array Value := #[.int .i64 x.f0, .int .i64 x.f1, .int .i64 x.f2, v3, .int .i64 x.f4, .int .i64 x.f5, .int .i64 x.f6, v7]
/-- The variables of copied: the instruction, the answer. -/
structure CW (w W : World) (g1 gc : Nat) (x : S47) (v3 v7 : Value) (ys : List S78) : Prop where
  below : Below w.heap.size w W
  b1 : W.heap[g1]? = some (.cells (row47 x v3 v7) 47 (0, 0))
  bc : W.heap[gc]? = some (.cells zero47 47 (0, 0))
  r3 : Kd.R k82 82 W w.heap.size (fun k => v3.ownBlock = some k) v3 x.f3
  n3 : ∀ k, v3.ownBlock = some k → k ≠ g1 ∧ k ≠ gc
  r7 : Kd.R k78 78 W w.heap.size (fun k => k ≠ g1 ∧ k ≠ gc ∧ some k ≠ v3.ownBlock) v7 ys
  ne : g1 ≠ gc
  l1 : w.heap.size ≤ g1
  lc : w.heap.size ≤ gc
section
variable {w W W1 W2 : World} {g1 gc : Nat} {x : S47} {v3 v7 v8 : Value} {ys ys1 : List S78}
theorem CW.next (h : CW w W g1 gc x v3 v7 ys) (hb : Below W.heap.size W W1) : CW w W1 g1 gc x v3 v7 ys :=
  ⟨below_step h.below hb, (hb.block g1 (blk_lt h.b1)).trans h.b1, (hb.block gc (blk_lt h.bc)).trans h.bc, Kd.R_below h.r3 hb, h.n3, Kd.R_below h.r7 hb, h.ne, h.l1, h.lc⟩
theorem CW.push (h : CW w W g1 gc x v3 v7 ys) (hR : Kd.R k78 78 W1 w.heap.size (fun k => k ≠ g1 ∧ k ≠ gc ∧ some k ≠ v3.ownBlock) v8 ys1) (hb : Below w.heap.size w W1) (hg : W.grownBy W1 v7.ownBlock) : CW w (W1.setCell ⟨g1, 7, none⟩ v8) g1 gc x v3 v8 ys1 := by
  have e1 : some g1 ≠ v7.ownBlock := fun he => (h.r7.1 g1 he.symm).1 rfl
  have ec : some gc ≠ v7.ownBlock := fun he => (h.r7.1 gc he.symm).2.1 rfl
  refine ⟨hb.setCell h.l1 _, blk_put (blk_grown h.b1 hg e1) 7 _ rfl, blk_far (blk_grown h.bc hg ec) (Ne.symm h.ne) _, ?_, h.n3, Kd.R_far hR (fun k hk => hk.1) _, h.ne, h.l1, h.lc⟩
  exact Kd.R_far (Kd.R_grown h.r3 hg (fun k hk he => (h.r7.1 k he.symm).2.2 hk.symm)) (fun k hk => (h.n3 k hk).1) _
end
theorem put47_blk {w : World} {g : Nat} {cs : Array Value} (h : w.heap[g]? = some (.cells cs 47 (0, 0))) (hc : cs = zero47) (b0 b1 b2 b3 b4 b5 b6 b7 : Value) : ((((((((w.setCell ⟨g, 0, none⟩ b0).setCell ⟨g, 1, none⟩ b1).setCell ⟨g, 2, none⟩ b2).setCell ⟨g, 3, none⟩ b3).setCell ⟨g, 4, none⟩ b4).setCell ⟨g, 5, none⟩ b5).setCell ⟨g, 6, none⟩ b6).setCell ⟨g, 7, none⟩ b7).heap[g]? = some (.cells #[b0, b1, b2, b3, b4, b5, b6, b7] 47 (0, 0)) := by
  subst hc
  exact blk_put (blk_set (blk_set (blk_set (blk_set (blk_set (blk_set (blk_set h 0 _) 1 _) 2 _) 3 _) 4 _) 5 _) 6 _) 7 _ (chain8 _ _ _ _ _ _ _ _ _ _ _ _ _ _ _ _)
theorem box47_zero_event {ops : Array Oper} {rest : List Oper} {o : Oper} {a : Act} {Q : Exit → Act → World → Prop} {W : World} (hgd : o.guard = none) {N : Tmp} (_hd : o.dst = some N) (ho : o.op = .alloc 47)
    (h : ∀ g w1, W.heap.size ≤ g → w1.heap[g]? = some (.cells zero47 47 (0, 0)) → Below W.heap.size W w1 → wpList Try.prog ops Q rest (a.put o.dst (.pointer (some ⟨g, 0, none⟩))) w1) : wpList Try.prog ops Q (o :: rest) a W := by
  refine box_event hgd (N := N) _hd (cs := zero47) (t := 47) ?_ (fun g hg w1 h1 h2 => h g w1 (Nat.le_of_eq hg.symm) h1 h2)
  simp only [execOp, ho, zero47]
  go_simp
  first | done | rfl

end Go.Proofs.Ytklknkfoafdgpaa.LiveCopied
