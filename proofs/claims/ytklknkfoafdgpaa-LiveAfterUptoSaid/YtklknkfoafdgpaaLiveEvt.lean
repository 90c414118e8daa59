/- What Run leaves fits where what it took fits; two comparisons as contracts. -/
/- Events of the walk: a block is made of values; a row of flags is made. -/
import Derived.Test.YtklknkfoafdgpaaLiveSame
import Derived.Test.YtklknkfoafdgpaaLiveRunP
namespace Go.Proofs.Ytklknkfoafdgpaa.LiveFit
open Go.RowKit Go.Proofs.YtklknkfoafdgpaaW.PrintWords Go.Proofs.YtklknkfoafdgpaaW.PrintLast Go.Proofs.YtklknkfoafdgpaaW.PrintMore
open Go.Proofs.Ytklknkfoafdgpaa.PLiveKnown Go.Proofs.Ytklknkfoafdgpaa.LiveT Go.Proofs.Ytklknkfoafdgpaa.LiveAhead Go.Proofs.Ytklknkfoafdgpaa.LiveSettled Go.Proofs.Ytklknkfoafdgpaa.LiveCopied Go.Proofs.Ytklknkfoafdgpaa.LiveRunP Go.Proofs.Ytklknkfoafdgpaa.LiveSame
set_option linter.unusedVariables false
set_option linter.unusedSimpArgs false

theorem ints_calls (l : List Int) (A A1 : Option Addr) (c c1 : Nat) (w : World) (h : Kd.C (Kd.int .i64) w A l.length l) (hc : l.length ≤ c) (h1 : Kd.C (Kd.int .i64) w A1 l.length l) (hc1 : l.length ≤ c1) :
    Calls Try.prog 12 #[.slice A l.length c, .slice A1 l.length c1] w fun e w' => e = .returned (.bool true) ∧ Below w.heap.size w w' := by
  obtain ⟨k, hk⟩ := (ints_self l (Kd.C_max h)).rounds
  exact (portageref0_SameInts.calls k A c l A1 c1 l true w h hc h1 hc1 hk).mono (fun e w' hh => ⟨hh.1, hh.2.below⟩)
end Go.Proofs.Ytklknkfoafdgpaa.LiveFit

namespace Go.Proofs.Ytklknkfoafdgpaa.LiveEvt
open Go.RowKit Go.Proofs.YtklknkfoafdgpaaW.PrintWords Go.Proofs.YtklknkfoafdgpaaW.PrintLast Go.Proofs.YtklknkfoafdgpaaW.PrintMore
open Go.Proofs.Ytklknkfoafdgpaa.PLiveKnown Go.Proofs.Ytklknkfoafdgpaa.LiveRunP
set_option linter.unusedVariables false
set_option linter.unusedSimpArgs false

theorem zero_event {ops : Array Oper} {rest : List Oper} {o : Oper} {a : Act} {Q : Exit → Act → World → Prop} {W : World} (t : Nat) (cs : Array Value) (hgd : o.guard = none) {N : Tmp} (_hd : o.dst = some N) (hrun : (execOp a.eval o).run Try.prog W = .ok (.value (.pointer (some ⟨W.heap.size, 0, none⟩))) (W.alloc (.cells cs t (0, 0))))
    (h : ∀ g w1, W.heap.size ≤ g → w1.heap[g]? = some (.cells cs t (0, 0)) → Below W.heap.size W w1 → wpList Try.prog ops Q rest (a.put o.dst (.pointer (some ⟨g, 0, none⟩))) w1) : wpList Try.prog ops Q (o :: rest) a W :=
  box_event hgd (N := N) _hd hrun (fun g hg w1 h1 h2 => h g w1 (Nat.le_of_eq hg.symm) h1 h2)

theorem made_event {ops : Array Oper} {rest : List Oper} {o : Oper} {a : Act} {Q : Exit → Act → World → Prop} {W : World} (n : Nat) (hgd : o.guard = none) {N : Tmp} (_hd : o.dst = some N) (hrun : (execOp a.eval o).run Try.prog W = .ok (.value (.slice (some ⟨W.heap.size, 0, none⟩) n n)) (W.alloc (.cells (madeB n) 4)))
    (h : ∀ g w1, W.heap.size ≤ g → KS w1 g n (fun _ => false) → Below W.heap.size W w1 → wpList Try.prog ops Q rest (a.put o.dst (.slice (some ⟨g, 0, none⟩) n n)) w1) : wpList Try.prog ops Q (o :: rest) a W :=
  Kd.event_run hgd hrun (h _ _ (Nat.le_refl _) (ks_made _ _ _ (blk_new W _)) (below_alloc (Below.refl _ _) _))

end Go.Proofs.Ytklknkfoafdgpaa.LiveEvt
