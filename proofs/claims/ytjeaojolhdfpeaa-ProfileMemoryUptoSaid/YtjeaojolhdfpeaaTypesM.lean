/- How the types of layer 18's laws open: a profile is a list of lists of spots, each number in its range, each list within the reach. -/
import Derived.Test.YtjeaojolhdfpeaaOpen
import Derived.Test.YtjeaojolhdfpeaaPProfileMemoryx0
import Derived.Test.YtjeaojolhdfpeaaPProfileMemoryx1
import Derived.Test.YtjeaojolhdfpeaaPProfileMemoryx2
import Derived.Test.YtjeaojolhdfpeaaPProfileMemoryx3
import Derived.Test.YtjeaojolhdfpeaaPProfileMemoryx4
import Derived.Test.YtjeaojolhdfpeaaPProfileMemoryx5
import Derived.Test.YtjeaojolhdfpeaaMemT
import Derived.Test.YtjeaojolhdfpeaaPProfileMemoryx9
namespace Go.Proofs.Ytjeaojolhdfpeaa.TypesM
open Go.RowKit Go.WideShapes Go.ChangeShapes Go.ChangeAt
open Go.Proofs.YtjeaojolhdfpeaaW.PrintWords Go.Proofs.Ytjeaojolhdfpeaa.Open Go.Proofs.Ytjeaojolhdfpeaa.PProfileMemory
set_option linter.unusedVariables false
set_option linter.unusedSimpArgs false

theorem own : ownKnob Try.prog.godebug = none := by kernel_rfl
theorem laidOut : laidOutB Try.prog = true := by kernel_rfl
def InI64 (n : Int) : Prop := -9223372036854775808 ≤ n ∧ n ≤ 9223372036854775807
def InU16 (n : Int) : Prop := 0 ≤ n ∧ n ≤ 65535
theorem in_i64 {n : Int} (h : (Lit.int .i64 n).wf = true) : InI64 n := by
  have h2 : -9223372036854775808 ≤ n ∧ n ≤ 9223372036854775807 := by simpa [Lit.wf, IntKind.min, IntKind.max, IntKind.signed, IntKind.bits] using h
  exact h2
theorem in_u16 {n : Int} (h : (Lit.int .u16 n).wf = true) : InU16 n := by
  have h2 : 0 ≤ n ∧ n ≤ 65535 := by simpa [Lit.wf, IntKind.min, IntKind.max, IntKind.signed, IntKind.bits] using h
  exact h2
theorem o2 : Opens Try.prog 2 (Kd.int .i64) InI64 := (opens_int Try.underlying2).imp fun _ h => in_i64 h
theorem o3 : Opens Try.prog 3 (Kd.int .i64) InI64 := (opens_int Try.underlying3).imp fun _ h => in_i64 h
theorem o26 : Opens Try.prog 26 (Kd.int .u16) InU16 := (opens_int Try.underlying26).imp fun _ h => in_u16 h
/-- A spot's numbers are in their ranges. -/
def SpotIn (s : S28) : Prop := InI64 s.f0 ∧ InU16 s.f1 ∧ InU16 s.f2 ∧ InI64 s.f3
theorem o28 : Opens Try.prog 28 k28 SpotIn :=
  opens_iso (g := fun p => ⟨p.1, p.2.1, p.2.2.1, p.2.2.2⟩) (fun _ => rfl) (opens_struct Try.underlying28 (opensF_cons o2 rfl (by kernel_rfl) (opensF_cons o26 rfl (by kernel_rfl) (opensF_cons o26 rfl (by kernel_rfl) (opensF_one o3 rfl (by kernel_rfl))))) (by kernel_rfl))
def RowIn (x : List S28) : Prop := x.length * 24 ≤ 140737488351232 ∧ ∀ s ∈ x, SpotIn s
theorem o77 : Opens Try.prog 77 (Kd.slice 28 k28) RowIn := opens_slice (B := 24) Try.underlying77 o28 (by kernel_rfl) (by kernel_rfl) (by decide)
def ProfIn (l : List (List S28)) : Prop := l.length * 24 ≤ 140737488351232 ∧ ∀ x ∈ l, RowIn x
theorem o22 : Opens Try.prog 22 (Kd.slice 77 (Kd.slice 28 k28)) ProfIn := opens_slice (B := 24) Try.underlying22 o77 (by kernel_rfl) (by kernel_rfl) (by decide)
theorem o24 : Opens Try.prog 24 (Kd.slice 77 (Kd.slice 28 k28)) ProfIn := opens_struct Try.underlying24 (opensF_one o22 rfl (by kernel_rfl)) (by kernel_rfl)

set_option maxRecDepth 100000 in
/-- A profile that comes in. -/
theorem open_prof {H : Type} {enc : TypeId × Value → H} {W : World} {base : Nat} {spare : Nat → Bool} {held : Bool} {r : Reach} {b0 : Nat} {v : Value} {d : DataW H} {p : List MemPlace} (hv : Value.okWide Try.prog W r b0 24 v)
    (h : DataW.Trod enc Try.prog W base spare held 24 v d p) (hw : ∀ n ∈ d.weights Try.prog 24, n ≤ reachBytes) :
    ∃ (A : Option Addr) (c : Nat) (l : List (List S28)), v = .agg #[.slice A l.length c] ∧ l.length ≤ c ∧ Kd.C (Kd.slice 28 k28) W A l.length l ∧ ProfIn l := by
  obtain ⟨l, hK, hG⟩ := opened o24 h hw
  obtain ⟨cs, rfl, hcs⟩ := okWide_struct Try.underlying24 hv
  obtain ⟨A, c, he, hl, hr⟩ := hK
  refine ⟨A, c, l, ?_, hl, hr, hG⟩
  cases cs
  simp [Value.cells] at he
  rw [he]
end Go.Proofs.Ytjeaojolhdfpeaa.TypesM
