/-
  No cell of these rows narrows 'for every input' (looked for: loops, veiled, ifaces, maps, wideKeys, modest, calm, conditions, laid).
  DERIVED. THE GIVEN ROWS OF THIS SEAT. 4 by the template 'for every input the law returns true; each argument reads behind the call as it read before'; 0 by the template 'total and deterministic' (their statements: YtcgajjaaiablkaaTotals.lean).
  GIVEN WITH THE SEED: the statements are not yours to turn. If you find one false, say at which input.
  Laid BY PROGRAM, IN A SANDBOX (cutbox-rows.mjs): the forced cells as the released guide's own fill.sh prints them over the translation 732d6bb556333e99… (all of the seat's roots in one cut). By AI agents, Wed Nov 11 2026. No macro, syntax, notation, axiom, sorry.
-/
import Derived.Test.YtcgajjaaiablkaaChecked
import GoSem.Claim
import GoSem.ClaimJoined
import GoSem.ClaimMapViews
import Derived.JoinedTies
import Derived.KernelRfl
namespace Go.Proofs.Ytcgajjaaiablkaa
/- THE CELL 'sum', in the pinned program and in every row, IS THE sha256 OF THE DUMP (.gsa) THAT YtcgajjaaiablkaaProg.lean LOADS. Nothing in Lean hashes anything: it is a label: what it is worth is what the hold of that sum in a sandbox is worth. -/
noncomputable def Try.pinned : Pinned := { name := "ytcgajjaaiablkaa", sum := "732d6bb556333e995a2a8d813160c48ea26be1986d222273a564478024c084ff", checked := Try.checked }
namespace Rows
def none {H : Type} : Left H := { results := [], args := [] }

/-- 'portagelaw32.DeskWords': WHATEVER THE INPUT: true; the input reads as it did. -/
def deskWordsSpec : ChangeSpec := { name := "deskWords", fn := fun _ => fun
  | [d1, d2] => { results := [.lit (.bool true)], args := [d1, d2] }
  | _ => none }
def deskWordsRow : OpenClaim := { program := "ytcgajjaaiablkaa", sum := "732d6bb556333e995a2a8d813160c48ea26be1986d222273a564478024c084ff", func := "portage/portagelaw32.DeskWords", spec := "deskWords", inPlace := ["internal/abi.NoEscape"], apart := false }
def DeskWordsSaid : Prop := deskWordsRow.holds Try.pinned (OpenSpec.ofChange deskWordsSpec)

/-- ITS FALSE NEIGHBOUR: 'it returns false'. Refute it at one input. -/
def deskWordsWrong : ChangeSpec := { name := "deskWords", fn := fun _ => fun
  | [d1, d2] => { results := [.lit (.bool false)], args := [d1, d2] }
  | _ => none }
def DeskWordsWrongFalsely : Prop := deskWordsRow.holds Try.pinned (OpenSpec.ofChange deskWordsWrong)

/-- 'portagelaw30.RelayOpens': WHATEVER THE INPUT: true; the input reads as it did. -/
def relayOpensSpec : ChangeSpec := { name := "relayOpens", fn := fun _ => fun
  | [d1, d2] => { results := [.lit (.bool true)], args := [d1, d2] }
  | _ => none }
def relayOpensRow : OpenClaim := { program := "ytcgajjaaiablkaa", sum := "732d6bb556333e995a2a8d813160c48ea26be1986d222273a564478024c084ff", func := "portage/portagelaw30.RelayOpens", spec := "relayOpens", unfollowed := true, recurses := true, apart := false }
def RelayOpensSaid : Prop := relayOpensRow.holds Try.pinned (OpenSpec.ofChange relayOpensSpec)

/-- ITS FALSE NEIGHBOUR: 'it returns false'. Refute it at one input. -/
def relayOpensWrong : ChangeSpec := { name := "relayOpens", fn := fun _ => fun
  | [d1, d2] => { results := [.lit (.bool false)], args := [d1, d2] }
  | _ => none }
def RelayOpensWrongFalsely : Prop := relayOpensRow.holds Try.pinned (OpenSpec.ofChange relayOpensWrong)

/-- 'portagelaw30.RelaySealed': WHATEVER THE INPUT: true; the input reads as it did. -/
def relaySealedSpec : ChangeSpec := { name := "relaySealed", fn := fun _ => fun
  | [d] => { results := [.lit (.bool true)], args := [d] }
  | _ => none }
def relaySealedRow : OpenClaim := { program := "ytcgajjaaiablkaa", sum := "732d6bb556333e995a2a8d813160c48ea26be1986d222273a564478024c084ff", func := "portage/portagelaw30.RelaySealed", spec := "relaySealed", unfollowed := true, recurses := true, apart := false }
def RelaySealedSaid : Prop := relaySealedRow.holds Try.pinned (OpenSpec.ofChange relaySealedSpec)

/-- ITS FALSE NEIGHBOUR: 'it returns false'. Refute it at one input. -/
def relaySealedWrong : ChangeSpec := { name := "relaySealed", fn := fun _ => fun
  | [d] => { results := [.lit (.bool false)], args := [d] }
  | _ => none }
def RelaySealedWrongFalsely : Prop := relaySealedRow.holds Try.pinned (OpenSpec.ofChange relaySealedWrong)

/-- 'portagelaw30.RelayOne': WHATEVER THE INPUT: true; the input reads as it did. -/
def relayOneSpec : ChangeSpec := { name := "relayOne", fn := fun _ => fun
  | [d] => { results := [.lit (.bool true)], args := [d] }
  | _ => none }
def relayOneRow : OpenClaim := { program := "ytcgajjaaiablkaa", sum := "732d6bb556333e995a2a8d813160c48ea26be1986d222273a564478024c084ff", func := "portage/portagelaw30.RelayOne", spec := "relayOne", unfollowed := true, recurses := true, apart := false }
def RelayOneSaid : Prop := relayOneRow.holds Try.pinned (OpenSpec.ofChange relayOneSpec)

/-- ITS FALSE NEIGHBOUR: 'it returns false'. Refute it at one input. -/
def relayOneWrong : ChangeSpec := { name := "relayOne", fn := fun _ => fun
  | [d] => { results := [.lit (.bool false)], args := [d] }
  | _ => none }
def RelayOneWrongFalsely : Prop := relayOneRow.holds Try.pinned (OpenSpec.ofChange relayOneWrong)

/- THE SECOND FORM. 'bulk': how many values and letters a reading holds, each counted each time it is reached (what is shared counts as often as it is met; a slice's spare places count too). A statement '..UptoSaid' is the law's where the arguments, and the package variables that the reading takes, are together of bulk at most 1048576: NARROWER than '..Said'. Prove '..Said' where nothing that the law and all that it calls make is longer than what came in: it says more and counts as full. Else prove '..UptoSaid'. A law counts once. -/
mutual
def uptoBulk {H : Type} : DataW H → Nat
  | .lit (.string bytes) => bytes.length + 1
  | .lit _ => 1
  | .nil => 1
  | .ptr d => uptoBulk d + 1
  | .slice elems spare => uptoBulkAll elems + uptoBulkAll spare + 1
  | .agg parts => uptoBulkAll parts + 1
  | .iface _ d => uptoBulk d + 1
  | .map entries => uptoBulkEntries entries + 1
  | .held _ => 1
def uptoBulkAll {H : Type} : List (DataW H) → Nat
  | [] => 0
  | d :: r => uptoBulk d + uptoBulkAll r
def uptoBulkEntries {H : Type} : List (Lit × DataW H) → Nat
  | [] => 0
  | x :: r => uptoBulkEntry x + uptoBulkEntries r
def uptoBulkEntry {H : Type} : Lit × DataW H → Nat
  | (.string bytes, d) => bytes.length + uptoBulk d + 1
  | (_, d) => uptoBulk d + 1
 end
def uptoSmall : (H : Type) → List (DataW H) → Bool := fun _ ds => decide (uptoBulkAll ds ≤ 1048576)
def OpenSpec.upto (s : _root_.Go.ChangeSpec) : _root_.Go.OpenSpec := { _root_.Go.OpenSpec.ofChange s with cond := some uptoSmall }

/-- 'portagelaw32.DeskWords', WHERE WHAT IT READS IS OF BULK AT MOST 1048576: true; the input reads as it did. -/
def deskWordsUptoRow : OpenClaim := { program := "ytcgajjaaiablkaa", sum := "732d6bb556333e995a2a8d813160c48ea26be1986d222273a564478024c084ff", func := "portage/portagelaw32.DeskWords", spec := "deskWords", inPlace := ["internal/abi.NoEscape"], apart := false, narrowed := true }
def DeskWordsUptoSaid : Prop := deskWordsUptoRow.holds Try.pinned (OpenSpec.upto deskWordsSpec)

/-- 'portagelaw30.RelayOpens', WHERE WHAT IT READS IS OF BULK AT MOST 1048576: true; the input reads as it did. -/
def relayOpensUptoRow : OpenClaim := { program := "ytcgajjaaiablkaa", sum := "732d6bb556333e995a2a8d813160c48ea26be1986d222273a564478024c084ff", func := "portage/portagelaw30.RelayOpens", spec := "relayOpens", unfollowed := true, recurses := true, apart := false, narrowed := true }
def RelayOpensUptoSaid : Prop := relayOpensUptoRow.holds Try.pinned (OpenSpec.upto relayOpensSpec)

/-- 'portagelaw30.RelaySealed', WHERE WHAT IT READS IS OF BULK AT MOST 1048576: true; the input reads as it did. -/
def relaySealedUptoRow : OpenClaim := { program := "ytcgajjaaiablkaa", sum := "732d6bb556333e995a2a8d813160c48ea26be1986d222273a564478024c084ff", func := "portage/portagelaw30.RelaySealed", spec := "relaySealed", unfollowed := true, recurses := true, apart := false, narrowed := true }
def RelaySealedUptoSaid : Prop := relaySealedUptoRow.holds Try.pinned (OpenSpec.upto relaySealedSpec)

/-- 'portagelaw30.RelayOne', WHERE WHAT IT READS IS OF BULK AT MOST 1048576: true; the input reads as it did. -/
def relayOneUptoRow : OpenClaim := { program := "ytcgajjaaiablkaa", sum := "732d6bb556333e995a2a8d813160c48ea26be1986d222273a564478024c084ff", func := "portage/portagelaw30.RelayOne", spec := "relayOne", unfollowed := true, recurses := true, apart := false, narrowed := true }
def RelayOneUptoSaid : Prop := relayOneUptoRow.holds Try.pinned (OpenSpec.upto relayOneSpec)

end Rows
end Go.Proofs.Ytcgajjaaiablkaa
