/- Two like lists of operands: both comparisons say so. -/
import Derived.Test.YtklknkfoafdgpaaLiveEvt
import Derived.Test.YtklknkfoafdgpaaPLiveKnownx10
namespace Go.Proofs.Ytklknkfoafdgpaa.LiveEqO
open Go.RowKit Go.Proofs.YtklknkfoafdgpaaW.PrintWords Go.Proofs.YtklknkfoafdgpaaW.PrintLast Go.Proofs.YtklknkfoafdgpaaW.PrintMore
open Go.Proofs.Ytklknkfoafdgpaa.PLiveKnown Go.Proofs.Ytklknkfoafdgpaa.LiveT Go.Proofs.Ytklknkfoafdgpaa.LiveSet Go.Proofs.Ytklknkfoafdgpaa.LiveAhead Go.Proofs.Ytklknkfoafdgpaa.LiveSettled Go.Proofs.Ytklknkfoafdgpaa.LiveRunP Go.Proofs.Ytklknkfoafdgpaa.LiveSame
set_option linter.unusedVariables false
set_option linter.unusedSimpArgs false

theorem opnds59_calls (l : List S82) (A A1 : Option Addr) (c c1 : Nat) (w : World) (h : Kd.C k82 w A l.length l) (hc : l.length ≤ c) (h1 : Kd.C k82 w A1 l.length l) (hc1 : l.length ≤ c1) :
    Calls Try.prog 59 #[.slice A l.length c, .slice A1 l.length c1] w fun e w' => e = .returned (.bool true) ∧ Below w.heap.size w w' := by
  obtain ⟨t, ht, hiff⟩ := opnds_ev l l (Kd.C_max h)
  rw [hiff.mpr rfl] at ht
  obtain ⟨k, hk⟩ := ht.rounds
  exact (portageref0_SameOpnds.calls k A c l A1 c1 l true w h hc h1 hc1 hk).mono (fun e w' hh => ⟨hh.1, hh.2.below⟩)
theorem oloop {β : Type} (n : Nat) (g : Nat → Int → Option β) (r : β) (hstop : Ev (fun k => g k (n : Int)) r) (hstep : ∀ i, i < n → Ev (fun k => g k ((i + 1 : Nat) : Int)) r → Ev (fun k => g k (i : Int)) r) : Ev (fun k => g k 0) r := by
  have key : ∀ d i, n - i = d → i ≤ n → Ev (fun k => g k (i : Int)) r := by
    intro d
    induction d with
    | zero =>
      intro i hd hi
      obtain rfl : i = n := by omega
      exact hstop
    | succ d ih =>
      intro i hd hi
      exact hstep i (by omega) (ih (i + 1) (by omega) (by omega))
  exact key _ 0 rfl (Nat.zero_le _)
theorem oself (l : List S82) (hl : l.length ≤ 9223372036854775807) : Ev (fun k => portagekit_sameOpnds.f k l l) true := by
  refine Ev.congr (f := fun k => portagekit_sameOpnds.l0 k l l 0) (fun k => by unfold portagekit_sameOpnds.f; rw [if_pos rfl]) ?_
  refine oloop l.length (fun k i => portagekit_sameOpnds.l0 k l l i) true (Ev.step (fun k => by simp only [portagekit_sameOpnds.l0]; rw [if_neg (by omega)]) (Ev.now _)) (fun i hi hr => Ev.step (fun k => ?_) hr)
  simp only [portagekit_sameOpnds.l0]
  rw [if_pos (by omega), if_pos (by omega), if_pos (by omega), if_neg (by simp), wrap_nat i _ hi hl]
theorem opnds66_calls (l : List S82) (A A1 : Option Addr) (c c1 : Nat) (w : World) (h : Kd.C k82 w A l.length l) (hc : l.length ≤ c) (h1 : Kd.C k82 w A1 l.length l) (hc1 : l.length ≤ c1) :
    Calls Try.prog 66 #[.slice A l.length c, .slice A1 l.length c1] w fun e w' => e = .returned (.bool true) ∧ Below w.heap.size w w' := by
  obtain ⟨k, hk⟩ := (oself l (Kd.C_max h)).rounds
  exact (portagekit_sameOpnds.calls k A c l A1 c1 l true w h hc h1 hc1 hk).mono (fun e w' hh => ⟨hh.1, hh.2.below⟩)
end Go.Proofs.Ytklknkfoafdgpaa.LiveEqO
