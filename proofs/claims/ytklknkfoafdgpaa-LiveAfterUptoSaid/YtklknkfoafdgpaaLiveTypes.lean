/- How a register code opens: each list within the reach. -/
import Derived.Test.YtklknkfoafdgpaaLiveRunP
import Derived.Test.YtklknkfoafdgpaaOpen
namespace Go.Proofs.Ytklknkfoafdgpaa.LiveTypes
open Go.RowKit Go.WideShapes Go.ChangeShapes Go.ChangeAt
open Go.Proofs.YtklknkfoafdgpaaW.PrintWords Go.Proofs.Ytklknkfoafdgpaa.Open Go.Proofs.Ytklknkfoafdgpaa.PLiveKnown Go.Proofs.Ytklknkfoafdgpaa.LiveCopied Go.Proofs.Ytklknkfoafdgpaa.LiveRunP
set_option linter.unusedVariables false
set_option linter.unusedSimpArgs false

theorem own : ownKnob Try.prog.godebug = none := by kernel_rfl
theorem laidOut : laidOutB Try.prog = true := by kernel_rfl
theorem mem_rd78 (l : List S78) (k : Nat) (h : k < l.length) : rd_T78 l (k : Int) ∈ l := by
  rw [show rd_T78 l (k : Int) = l[k] by simp [rd_T78, List.getD_eq_getElem?_getD, h]]
  exact List.getElem_mem h
theorem mem_rd47 (l : List S47) (k : Nat) (h : k < l.length) : rd_T47 l (k : Int) ∈ l := by
  rw [show rd_T47 l (k : Int) = l[k] by simp [rd_T47, List.getD_eq_getElem?_getD, h]]
  exact List.getElem_mem h
theorem mem_rd43 (l : List S43) (k : Nat) (h : k < l.length) : rd_T43 l (k : Int) ∈ l := by
  rw [show rd_T43 l (k : Int) = l[k] by simp [rd_T43, List.getD_eq_getElem?_getD, h]]
  exact List.getElem_mem h
end Go.Proofs.Ytklknkfoafdgpaa.LiveTypes
