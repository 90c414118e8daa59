/- The program's After: the registers that are asked for behind an instruction. -/
import Derived.Test.YtklknkfoafdgpaaLiveSettled
namespace Go.Proofs.Ytklknkfoafdgpaa.LiveAft
open Go.RowKit Go.Proofs.YtklknkfoafdgpaaW.PrintWords Go.Proofs.YtklknkfoafdgpaaW.PrintLast Go.Proofs.YtklknkfoafdgpaaW.PrintMore
open Go.Proofs.Ytklknkfoafdgpaa.PLiveKnown Go.Proofs.Ytklknkfoafdgpaa.LiveT Go.Proofs.Ytklknkfoafdgpaa.LiveB Go.Proofs.Ytklknkfoafdgpaa.LiveSet Go.Proofs.Ytklknkfoafdgpaa.LiveAhead Go.Proofs.Ytklknkfoafdgpaa.LiveEnd Go.Proofs.Ytklknkfoafdgpaa.LiveInv Go.Proofs.Ytklknkfoafdgpaa.LiveSettled
set_option linter.unusedVariables false
set_option linter.unusedSimpArgs false

/-- The registers of a set, rising. -/
def regsTo (S : RS) (k : Nat) : List Int := ((List.range k).filter fun (r : Nat) => S (r : Int)).map fun (r : Nat) => (r : Int)
theorem regsTo_succ (S : RS) (k : Nat) : regsTo S (k + 1) = regsTo S k ++ (if S (k : Int) = true then [(k : Int)] else []) := by
  simp only [regsTo, List.range_succ, List.filter_append, List.map_append, List.filter_cons, List.filter_nil]
  split <;> simp_all
theorem regsTo_length (S : RS) (k : Nat) : (regsTo S k).length ≤ k := by
  simp only [regsTo, List.length_map]
  exact Nat.le_trans (List.length_filter_le _ _) (by simp)
/-- What is wanted behind an instruction. -/
def behind (bs : List S43) (V : Nat → RS) (b i : Nat) : RS := back (((rd_T43 bs b).f1.drop (i + 1)).map iOf) (endd bs.length V (rd_T43 bs b).f2)
/-- What After answers. -/
def after (bs : List S43) (V : Nat → RS) (block ins : Int) : List Int :=
  if 0 ≤ block ∧ block < bs.length ∧ 0 ≤ ins ∧ ins < (rd_T43 bs block).f1.length then regsTo (behind bs V block.toNat ins.toNat) 512 else []
theorem infoI : (Try.prog.info? 3).map (fun i => (i.zero, i.size, i.bytes)) = some (some (.int .i64 0), 1, 8) := by kernel_rfl

/-- One fresh variable that holds a set. -/
structure VW (w W : World) (g : Nat) (S : RS) : Prop where
  below : Below w.heap.size w W
  at_ : At W g S
  lt : w.heap.size ≤ g
theorem VW.put {w W W1 : World} {g : Nat} {S T : RS} (h : VW w W g S) (hA : At W1 g T) (hg : W.grownBy W1 (some g)) : VW w W1 g T :=
  ⟨h.below.grown hg h.below.size (fun k hk => by cases hk; exact h.lt), hA, h.lt⟩
theorem VW.next {w W W1 : World} {g : Nat} {S : RS} (h : VW w W g S) (hb : Below W.heap.size W W1) : VW w W1 g S := ⟨below_step h.below hb, at_below h.at_ hb, h.lt⟩

end Go.Proofs.Ytklknkfoafdgpaa.LiveAft
