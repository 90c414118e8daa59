/-
  No cell of these rows narrows 'for every input' (looked for: loops, veiled, ifaces, maps, wideKeys, modest, calm, conditions, laid).
  DERIVED. THE GIVEN ROWS OF THIS SEAT. 3 by the template 'for every input the law returns true; each argument reads behind the call as it read before'; 0 by the template 'total and deterministic' (their statements: YtjeaojolhdfpeaaGreatTotals.lean).
  GIVEN WITH THE SEED: the statements are not yours to turn. If you find one false, say at which input.
  Laid BY PROGRAM, IN A SANDBOX (cutbox-rows.mjs): the forced cells as the released guide's own fill.sh prints them over the translation aada3e9e336ac1f4… (all of the seat's roots in one cut). By AI agents, Wed Nov 11 2026. No macro, syntax, notation, axiom, sorry.
-/
import Derived.Test.YtjeaojolhdfpeaaGreatChecked
import GoSem.Claim
import GoSem.ClaimJoined
import GoSem.ClaimMapViews
import Derived.JoinedTies
import Derived.KernelRfl
namespace Go.Proofs.YtjeaojolhdfpeaaGreat
/- THE CELL 'sum', in the pinned program and in every row, IS THE sha256 OF THE DUMP (.gsa) THAT YtjeaojolhdfpeaaGreatProg.lean LOADS. Nothing in Lean hashes anything: it is a label: what it is worth is what the hold of that sum in a sandbox is worth. -/
noncomputable def Tryz.pinned : Pinned := { name := "ytjeaojolhdfpeaagreat", sum := "aada3e9e336ac1f4c06684af548a6b2ec6d5c70a9cad9c410cca29e25b030071", checked := Tryz.checked }
namespace Rows
def none {H : Type} : Left H := { results := [], args := [] }

/-- 'portagelaw18.ProfileKnown': WHATEVER THE INPUT: true; the input reads as it did. -/
def profileKnownSpec : ChangeSpec := { name := "profileKnown", fn := fun _ => fun
  | [] => { results := [.lit (.bool true)], args := [] }
  | _ => none }
def profileKnownRow : OpenClaim := { program := "ytjeaojolhdfpeaagreat", sum := "aada3e9e336ac1f4c06684af548a6b2ec6d5c70a9cad9c410cca29e25b030071", func := "portage/portagelaw18.ProfileKnown", spec := "profileKnown", inPlace := ["sync/atomic.StoreInt64", "sync/atomic.LoadInt64"], unfollowed := true, recurses := true, plainKeys := false, apart := false }
def ProfileKnownSaid : Prop := profileKnownRow.holds Tryz.pinned (OpenSpec.ofChange profileKnownSpec)

/-- ITS FALSE NEIGHBOUR: 'it returns false'. Refute it at one input. -/
def profileKnownWrong : ChangeSpec := { name := "profileKnown", fn := fun _ => fun
  | [] => { results := [.lit (.bool false)], args := [] }
  | _ => none }
def ProfileKnownWrongFalsely : Prop := profileKnownRow.holds Tryz.pinned (OpenSpec.ofChange profileKnownWrong)

/-- 'portagelaw18.ProfileMeets': WHATEVER THE INPUT: true; the input reads as it did. -/
def profileMeetsSpec : ChangeSpec := { name := "profileMeets", fn := fun _ => fun
  | [d1, d2, d3] => { results := [.lit (.bool true)], args := [d1, d2, d3] }
  | _ => none }
def profileMeetsRow : OpenClaim := { program := "ytjeaojolhdfpeaagreat", sum := "aada3e9e336ac1f4c06684af548a6b2ec6d5c70a9cad9c410cca29e25b030071", func := "portage/portagelaw18.ProfileMeets", spec := "profileMeets", inPlace := ["sync/atomic.StoreInt64", "sync/atomic.LoadInt64"], unfollowed := true, recurses := true, plainKeys := false, apart := false }
def ProfileMeetsSaid : Prop := profileMeetsRow.holds Tryz.pinned (OpenSpec.ofChange profileMeetsSpec)

/-- ITS FALSE NEIGHBOUR: 'it returns false'. Refute it at one input. -/
def profileMeetsWrong : ChangeSpec := { name := "profileMeets", fn := fun _ => fun
  | [d1, d2, d3] => { results := [.lit (.bool false)], args := [d1, d2, d3] }
  | _ => none }
def ProfileMeetsWrongFalsely : Prop := profileMeetsRow.holds Tryz.pinned (OpenSpec.ofChange profileMeetsWrong)

/-- 'portagelaw18.ProfileCut': WHATEVER THE INPUT: true; the input reads as it did. -/
def profileCutSpec : ChangeSpec := { name := "profileCut", fn := fun _ => fun
  | [d1, d2, d3] => { results := [.lit (.bool true)], args := [d1, d2, d3] }
  | _ => none }
def profileCutRow : OpenClaim := { program := "ytjeaojolhdfpeaagreat", sum := "aada3e9e336ac1f4c06684af548a6b2ec6d5c70a9cad9c410cca29e25b030071", func := "portage/portagelaw18.ProfileCut", spec := "profileCut", inPlace := ["sync/atomic.StoreInt64", "sync/atomic.LoadInt64"], unfollowed := true, recurses := true, plainKeys := false, apart := false }
def ProfileCutSaid : Prop := profileCutRow.holds Tryz.pinned (OpenSpec.ofChange profileCutSpec)

/-- ITS FALSE NEIGHBOUR: 'it returns false'. Refute it at one input. -/
def profileCutWrong : ChangeSpec := { name := "profileCut", fn := fun _ => fun
  | [d1, d2, d3] => { results := [.lit (.bool false)], args := [d1, d2, d3] }
  | _ => none }
def ProfileCutWrongFalsely : Prop := profileCutRow.holds Tryz.pinned (OpenSpec.ofChange profileCutWrong)

/- THE SECOND FORM. 'bulk': how many values and letters a reading holds, each counted each time it is reached (what is shared counts as often as it is met; a slice's spare places count too). A statement '..UptoSaid' is the law's where the arguments, and the package variables that the reading takes, are together of bulk at most 1048576: NARROWER than '..Said'. Prove '..Said' where nothing that the law and all that it calls make is longer than what came in: it says more and counts as full. Else prove '..UptoSaid'. A law counts once. -/
mutual
def uptoBulk {H : Type} : DataW H → Nat
  | .lit (.string bytes) => bytes.length + 1
  | .lit _ => 1
  | .nil => 1
  | .ptr d => uptoBulk d + 1
  | .slice elems spare => uptoBulkAll elems + uptoBulkAll spare + 1
  | .agg parts => uptoBulkAll parts + 1
  | .iface _ d => uptoBulk d + 1
  | .map entries => uptoBulkEntries entries + 1
  | .held _ => 1
def uptoBulkAll {H : Type} : List (DataW H) → Nat
  | [] => 0
  | d :: r => uptoBulk d + uptoBulkAll r
def uptoBulkEntries {H : Type} : List (Lit × DataW H) → Nat
  | [] => 0
  | x :: r => uptoBulkEntry x + uptoBulkEntries r
def uptoBulkEntry {H : Type} : Lit × DataW H → Nat
  | (.string bytes, d) => bytes.length + uptoBulk d + 1
  | (_, d) => uptoBulk d + 1
 end
def uptoSmall : (H : Type) → List (DataW H) → Bool := fun _ ds => decide (uptoBulkAll ds ≤ 1048576)
def OpenSpec.upto (s : _root_.Go.ChangeSpec) : _root_.Go.OpenSpec := { _root_.Go.OpenSpec.ofChange s with cond := some uptoSmall }

/-- 'portagelaw18.ProfileKnown', WHERE WHAT IT READS IS OF BULK AT MOST 1048576: true; the input reads as it did. -/
def profileKnownUptoRow : OpenClaim := { program := "ytjeaojolhdfpeaagreat", sum := "aada3e9e336ac1f4c06684af548a6b2ec6d5c70a9cad9c410cca29e25b030071", func := "portage/portagelaw18.ProfileKnown", spec := "profileKnown", inPlace := ["sync/atomic.StoreInt64", "sync/atomic.LoadInt64"], unfollowed := true, recurses := true, plainKeys := false, apart := false, narrowed := true }
def ProfileKnownUptoSaid : Prop := profileKnownUptoRow.holds Tryz.pinned (OpenSpec.upto profileKnownSpec)

/-- 'portagelaw18.ProfileMeets', WHERE WHAT IT READS IS OF BULK AT MOST 1048576: true; the input reads as it did. -/
def profileMeetsUptoRow : OpenClaim := { program := "ytjeaojolhdfpeaagreat", sum := "aada3e9e336ac1f4c06684af548a6b2ec6d5c70a9cad9c410cca29e25b030071", func := "portage/portagelaw18.ProfileMeets", spec := "profileMeets", inPlace := ["sync/atomic.StoreInt64", "sync/atomic.LoadInt64"], unfollowed := true, recurses := true, plainKeys := false, apart := false, narrowed := true }
def ProfileMeetsUptoSaid : Prop := profileMeetsUptoRow.holds Tryz.pinned (OpenSpec.upto profileMeetsSpec)

/-- 'portagelaw18.ProfileCut', WHERE WHAT IT READS IS OF BULK AT MOST 1048576: true; the input reads as it did. -/
def profileCutUptoRow : OpenClaim := { program := "ytjeaojolhdfpeaagreat", sum := "aada3e9e336ac1f4c06684af548a6b2ec6d5c70a9cad9c410cca29e25b030071", func := "portage/portagelaw18.ProfileCut", spec := "profileCut", inPlace := ["sync/atomic.StoreInt64", "sync/atomic.LoadInt64"], unfollowed := true, recurses := true, plainKeys := false, apart := false, narrowed := true }
def ProfileCutUptoSaid : Prop := profileCutUptoRow.holds Tryz.pinned (OpenSpec.upto profileCutSpec)

end Rows
end Go.Proofs.YtjeaojolhdfpeaaGreat
