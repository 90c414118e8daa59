/-
  No cell of these rows narrows 'for every input' (looked for: loops, veiled, ifaces, maps, wideKeys, modest, calm, conditions, laid).
  DERIVED. THE GIVEN ROWS OF THIS SEAT. 6 by the template 'for every input the law returns true; each argument reads behind the call as it read before'; 0 by the template 'total and deterministic' (their statements: YtklknkfoafdgpaaTotals.lean).
  GIVEN WITH THE SEED: the statements are not yours to turn. If you find one false, say at which input.
  Laid BY PROGRAM, IN A SANDBOX (cutbox-rows.mjs): the forced cells as the released guide's own fill.sh prints them over the translation affd6c855bc28db2… (all of the seat's roots in one cut). By AI agents, Wed Nov 11 2026. No macro, syntax, notation, axiom, sorry.
-/
import Derived.Test.YtklknkfoafdgpaaChecked
import GoSem.Claim
import GoSem.ClaimJoined
import GoSem.ClaimMapViews
import Derived.JoinedTies
import Derived.KernelRfl
namespace Go.Proofs.Ytklknkfoafdgpaa
/- THE CELL 'sum', in the pinned program and in every row, IS THE sha256 OF THE DUMP (.gsa) THAT YtklknkfoafdgpaaProg.lean LOADS. Nothing in Lean hashes anything: it is a label: what it is worth is what the hold of that sum in a sandbox is worth. -/
noncomputable def Try.pinned : Pinned := { name := "ytklknkfoafdgpaa", sum := "affd6c855bc28db29f2ac4cd0fb4c9ef393d344aa83f93dc5b86a37e30249a41", checked := Try.checked }
namespace Rows
def none {H : Type} : Left H := { results := [], args := [] }

/-- 'portagelaw24.LiveAfter': WHATEVER THE INPUT: true; the input reads as it did. -/
def liveAfterSpec : ChangeSpec := { name := "liveAfter", fn := fun _ => fun
  | [d1, d2, d3, d4, d5] => { results := [.lit (.bool true)], args := [d1, d2, d3, d4, d5] }
  | _ => none }
def liveAfterRow : OpenClaim := { program := "ytklknkfoafdgpaa", sum := "affd6c855bc28db29f2ac4cd0fb4c9ef393d344aa83f93dc5b86a37e30249a41", func := "portage/portagelaw24.LiveAfter", spec := "liveAfter", apart := false }
def LiveAfterSaid : Prop := liveAfterRow.holds Try.pinned (OpenSpec.ofChange liveAfterSpec)

/-- ITS FALSE NEIGHBOUR: 'it returns false'. Refute it at one input. -/
def liveAfterWrong : ChangeSpec := { name := "liveAfter", fn := fun _ => fun
  | [d1, d2, d3, d4, d5] => { results := [.lit (.bool false)], args := [d1, d2, d3, d4, d5] }
  | _ => none }
def LiveAfterWrongFalsely : Prop := liveAfterRow.holds Try.pinned (OpenSpec.ofChange liveAfterWrong)

/-- 'portagelaw24.LiveRun': WHATEVER THE INPUT: true; the input reads as it did. -/
def liveRunSpec : ChangeSpec := { name := "liveRun", fn := fun _ => fun
  | [d1, d2] => { results := [.lit (.bool true)], args := [d1, d2] }
  | _ => none }
def liveRunRow : OpenClaim := { program := "ytklknkfoafdgpaa", sum := "affd6c855bc28db29f2ac4cd0fb4c9ef393d344aa83f93dc5b86a37e30249a41", func := "portage/portagelaw24.LiveRun", spec := "liveRun", apart := false }
def LiveRunSaid : Prop := liveRunRow.holds Try.pinned (OpenSpec.ofChange liveRunSpec)

/-- ITS FALSE NEIGHBOUR: 'it returns false'. Refute it at one input. -/
def liveRunWrong : ChangeSpec := { name := "liveRun", fn := fun _ => fun
  | [d1, d2] => { results := [.lit (.bool false)], args := [d1, d2] }
  | _ => none }
def LiveRunWrongFalsely : Prop := liveRunRow.holds Try.pinned (OpenSpec.ofChange liveRunWrong)

/-- 'portagelaw24.LiveMemory': WHATEVER THE INPUT: true; the input reads as it did. -/
def liveMemorySpec : ChangeSpec := { name := "liveMemory", fn := fun _ => fun
  | [d] => { results := [.lit (.bool true)], args := [d] }
  | _ => none }
def liveMemoryRow : OpenClaim := { program := "ytklknkfoafdgpaa", sum := "affd6c855bc28db29f2ac4cd0fb4c9ef393d344aa83f93dc5b86a37e30249a41", func := "portage/portagelaw24.LiveMemory", spec := "liveMemory", apart := false }
def LiveMemorySaid : Prop := liveMemoryRow.holds Try.pinned (OpenSpec.ofChange liveMemorySpec)

/-- ITS FALSE NEIGHBOUR: 'it returns false'. Refute it at one input. -/
def liveMemoryWrong : ChangeSpec := { name := "liveMemory", fn := fun _ => fun
  | [d] => { results := [.lit (.bool false)], args := [d] }
  | _ => none }
def LiveMemoryWrongFalsely : Prop := liveMemoryRow.holds Try.pinned (OpenSpec.ofChange liveMemoryWrong)

/-- 'portagelaw24.LiveKnown': WHATEVER THE INPUT: true; the input reads as it did. -/
def liveKnownSpec : ChangeSpec := { name := "liveKnown", fn := fun _ => fun
  | [] => { results := [.lit (.bool true)], args := [] }
  | _ => none }
def liveKnownRow : OpenClaim := { program := "ytklknkfoafdgpaa", sum := "affd6c855bc28db29f2ac4cd0fb4c9ef393d344aa83f93dc5b86a37e30249a41", func := "portage/portagelaw24.LiveKnown", spec := "liveKnown", unfollowed := true, recurses := true, apart := false }
def LiveKnownSaid : Prop := liveKnownRow.holds Try.pinned (OpenSpec.ofChange liveKnownSpec)

/-- ITS FALSE NEIGHBOUR: 'it returns false'. Refute it at one input. -/
def liveKnownWrong : ChangeSpec := { name := "liveKnown", fn := fun _ => fun
  | [] => { results := [.lit (.bool false)], args := [] }
  | _ => none }
def LiveKnownWrongFalsely : Prop := liveKnownRow.holds Try.pinned (OpenSpec.ofChange liveKnownWrong)

/-- 'portagelaw24.LiveWays': WHATEVER THE INPUT: true; the input reads as it did. -/
def liveWaysSpec : ChangeSpec := { name := "liveWays", fn := fun _ => fun
  | [d] => { results := [.lit (.bool true)], args := [d] }
  | _ => none }
def liveWaysRow : OpenClaim := { program := "ytklknkfoafdgpaa", sum := "affd6c855bc28db29f2ac4cd0fb4c9ef393d344aa83f93dc5b86a37e30249a41", func := "portage/portagelaw24.LiveWays", spec := "liveWays", unfollowed := true, recurses := true, apart := false }
def LiveWaysSaid : Prop := liveWaysRow.holds Try.pinned (OpenSpec.ofChange liveWaysSpec)

/-- ITS FALSE NEIGHBOUR: 'it returns false'. Refute it at one input. -/
def liveWaysWrong : ChangeSpec := { name := "liveWays", fn := fun _ => fun
  | [d] => { results := [.lit (.bool false)], args := [d] }
  | _ => none }
def LiveWaysWrongFalsely : Prop := liveWaysRow.holds Try.pinned (OpenSpec.ofChange liveWaysWrong)

/-- 'portagelaw24.LiveTwice': WHATEVER THE INPUT: true; the input reads as it did. -/
def liveTwiceSpec : ChangeSpec := { name := "liveTwice", fn := fun _ => fun
  | [d] => { results := [.lit (.bool true)], args := [d] }
  | _ => none }
def liveTwiceRow : OpenClaim := { program := "ytklknkfoafdgpaa", sum := "affd6c855bc28db29f2ac4cd0fb4c9ef393d344aa83f93dc5b86a37e30249a41", func := "portage/portagelaw24.LiveTwice", spec := "liveTwice", unfollowed := true, recurses := true, apart := false }
def LiveTwiceSaid : Prop := liveTwiceRow.holds Try.pinned (OpenSpec.ofChange liveTwiceSpec)

/-- ITS FALSE NEIGHBOUR: 'it returns false'. Refute it at one input. -/
def liveTwiceWrong : ChangeSpec := { name := "liveTwice", fn := fun _ => fun
  | [d] => { results := [.lit (.bool false)], args := [d] }
  | _ => none }
def LiveTwiceWrongFalsely : Prop := liveTwiceRow.holds Try.pinned (OpenSpec.ofChange liveTwiceWrong)

/- THE SECOND FORM. 'bulk': how many values and letters a reading holds, each counted each time it is reached (what is shared counts as often as it is met; a slice's spare places count too). A statement '..UptoSaid' is the law's where the arguments, and the package variables that the reading takes, are together of bulk at most 1048576: NARROWER than '..Said'. Prove '..Said' where nothing that the law and all that it calls make is longer than what came in: it says more and counts as full. Else prove '..UptoSaid'. A law counts once. -/
mutual
def uptoBulk {H : Type} : DataW H → Nat
  | .lit (.string bytes) => bytes.length + 1
  | .lit _ => 1
  | .nil => 1
  | .ptr d => uptoBulk d + 1
  | .slice elems spare => uptoBulkAll elems + uptoBulkAll spare + 1
  | .agg parts => uptoBulkAll parts + 1
  | .iface _ d => uptoBulk d + 1
  | .map entries => uptoBulkEntries entries + 1
  | .held _ => 1
def uptoBulkAll {H : Type} : List (DataW H) → Nat
  | [] => 0
  | d :: r => uptoBulk d + uptoBulkAll r
def uptoBulkEntries {H : Type} : List (Lit × DataW H) → Nat
  | [] => 0
  | x :: r => uptoBulkEntry x + uptoBulkEntries r
def uptoBulkEntry {H : Type} : Lit × DataW H → Nat
  | (.string bytes, d) => bytes.length + uptoBulk d + 1
  | (_, d) => uptoBulk d + 1
 end
def uptoSmall : (H : Type) → List (DataW H) → Bool := fun _ ds => decide (uptoBulkAll ds ≤ 1048576)
def OpenSpec.upto (s : _root_.Go.ChangeSpec) : _root_.Go.OpenSpec := { _root_.Go.OpenSpec.ofChange s with cond := some uptoSmall }

/-- 'portagelaw24.LiveAfter', WHERE WHAT IT READS IS OF BULK AT MOST 1048576: true; the input reads as it did. -/
def liveAfterUptoRow : OpenClaim := { program := "ytklknkfoafdgpaa", sum := "affd6c855bc28db29f2ac4cd0fb4c9ef393d344aa83f93dc5b86a37e30249a41", func := "portage/portagelaw24.LiveAfter", spec := "liveAfter", apart := false, narrowed := true }
def LiveAfterUptoSaid : Prop := liveAfterUptoRow.holds Try.pinned (OpenSpec.upto liveAfterSpec)

/-- 'portagelaw24.LiveRun', WHERE WHAT IT READS IS OF BULK AT MOST 1048576: true; the input reads as it did. -/
def liveRunUptoRow : OpenClaim := { program := "ytklknkfoafdgpaa", sum := "affd6c855bc28db29f2ac4cd0fb4c9ef393d344aa83f93dc5b86a37e30249a41", func := "portage/portagelaw24.LiveRun", spec := "liveRun", apart := false, narrowed := true }
def LiveRunUptoSaid : Prop := liveRunUptoRow.holds Try.pinned (OpenSpec.upto liveRunSpec)

/-- 'portagelaw24.LiveMemory', WHERE WHAT IT READS IS OF BULK AT MOST 1048576: true; the input reads as it did. -/
def liveMemoryUptoRow : OpenClaim := { program := "ytklknkfoafdgpaa", sum := "affd6c855bc28db29f2ac4cd0fb4c9ef393d344aa83f93dc5b86a37e30249a41", func := "portage/portagelaw24.LiveMemory", spec := "liveMemory", apart := false, narrowed := true }
def LiveMemoryUptoSaid : Prop := liveMemoryUptoRow.holds Try.pinned (OpenSpec.upto liveMemorySpec)

/-- 'portagelaw24.LiveKnown', WHERE WHAT IT READS IS OF BULK AT MOST 1048576: true; the input reads as it did. -/
def liveKnownUptoRow : OpenClaim := { program := "ytklknkfoafdgpaa", sum := "affd6c855bc28db29f2ac4cd0fb4c9ef393d344aa83f93dc5b86a37e30249a41", func := "portage/portagelaw24.LiveKnown", spec := "liveKnown", unfollowed := true, recurses := true, apart := false, narrowed := true }
def LiveKnownUptoSaid : Prop := liveKnownUptoRow.holds Try.pinned (OpenSpec.upto liveKnownSpec)

/-- 'portagelaw24.LiveWays', WHERE WHAT IT READS IS OF BULK AT MOST 1048576: true; the input reads as it did. -/
def liveWaysUptoRow : OpenClaim := { program := "ytklknkfoafdgpaa", sum := "affd6c855bc28db29f2ac4cd0fb4c9ef393d344aa83f93dc5b86a37e30249a41", func := "portage/portagelaw24.LiveWays", spec := "liveWays", unfollowed := true, recurses := true, apart := false, narrowed := true }
def LiveWaysUptoSaid : Prop := liveWaysUptoRow.holds Try.pinned (OpenSpec.upto liveWaysSpec)

/-- 'portagelaw24.LiveTwice', WHERE WHAT IT READS IS OF BULK AT MOST 1048576: true; the input reads as it did. -/
def liveTwiceUptoRow : OpenClaim := { program := "ytklknkfoafdgpaa", sum := "affd6c855bc28db29f2ac4cd0fb4c9ef393d344aa83f93dc5b86a37e30249a41", func := "portage/portagelaw24.LiveTwice", spec := "liveTwice", unfollowed := true, recurses := true, apart := false, narrowed := true }
def LiveTwiceUptoSaid : Prop := liveTwiceUptoRow.holds Try.pinned (OpenSpec.upto liveTwiceSpec)

end Rows
end Go.Proofs.Ytklknkfoafdgpaa
