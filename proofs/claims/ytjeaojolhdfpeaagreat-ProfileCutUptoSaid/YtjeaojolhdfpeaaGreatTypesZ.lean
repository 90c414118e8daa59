/- How the types of layer 18's laws open: a profile is a list of lists of spots, each number in its range, each list within the reach. -/
import Derived.Test.YtjeaojolhdfpeaaGreatOpen
import Derived.Test.YtjeaojolhdfpeaaGreatPProfileCutx2
import Derived.Test.YtjeaojolhdfpeaaGreatCutT
import Derived.Test.YtjeaojolhdfpeaaGreatPProfileCutx4
import Derived.Test.YtjeaojolhdfpeaaGreatPProfileCutx5
import Derived.Test.YtjeaojolhdfpeaaGreatCutK
namespace Go.Proofs.YtjeaojolhdfpeaaGreat.TypesZ
open Go.RowKit Go.WideShapes Go.ChangeShapes Go.ChangeAt
open Go.Proofs.YtjeaojolhdfpeaaGreatW.PrintWords Go.Proofs.YtjeaojolhdfpeaaGreat.Open Go.Proofs.YtjeaojolhdfpeaaGreat.PProfileCut
set_option linter.unusedVariables false
set_option linter.unusedSimpArgs false

theorem own : ownKnob Tryz.prog.godebug = none := by kernel_rfl
theorem laidOut : laidOutB Tryz.prog = true := by kernel_rfl
def InI64 (n : Int) : Prop := -9223372036854775808 ≤ n ∧ n ≤ 9223372036854775807
def InU16 (n : Int) : Prop := 0 ≤ n ∧ n ≤ 65535
theorem in_i64 {n : Int} (h : (Lit.int .i64 n).wf = true) : InI64 n := by
  have h2 : -9223372036854775808 ≤ n ∧ n ≤ 9223372036854775807 := by simpa [Lit.wf, IntKind.min, IntKind.max, IntKind.signed, IntKind.bits] using h
  exact h2
theorem in_u16 {n : Int} (h : (Lit.int .u16 n).wf = true) : InU16 n := by
  have h2 : 0 ≤ n ∧ n ≤ 65535 := by simpa [Lit.wf, IntKind.min, IntKind.max, IntKind.signed, IntKind.bits] using h
  exact h2
theorem o2 : Opens Tryz.prog 2 (Kd.int .i64) InI64 := (opens_int Tryz.underlying2).imp fun _ h => in_i64 h
theorem o3 : Opens Tryz.prog 3 (Kd.int .i64) InI64 := (opens_int Tryz.underlying3).imp fun _ h => in_i64 h
theorem o26 : Opens Tryz.prog 49 (Kd.int .u16) InU16 := (opens_int Tryz.underlying49).imp fun _ h => in_u16 h
/-- A spot's numbers are in their ranges. -/
def SpotIn (s : S51) : Prop := InI64 s.f0 ∧ InU16 s.f1 ∧ InU16 s.f2 ∧ InI64 s.f3
theorem o28 : Opens Tryz.prog 51 k51 SpotIn :=
  opens_iso (g := fun p => ⟨p.1, p.2.1, p.2.2.1, p.2.2.2⟩) (fun _ => rfl) (opens_struct Tryz.underlying51 (opensF_cons o2 rfl (by kernel_rfl) (opensF_cons o26 rfl (by kernel_rfl) (opensF_cons o26 rfl (by kernel_rfl) (opensF_one o3 rfl (by kernel_rfl))))) (by kernel_rfl))
def RowIn (x : List S51) : Prop := x.length * 24 ≤ 140737488351232 ∧ ∀ s ∈ x, SpotIn s
theorem o77 : Opens Tryz.prog 53 (Kd.slice 51 k51) RowIn := opens_slice (B := 24) Tryz.underlying53 o28 (by kernel_rfl) (by kernel_rfl) (by decide)
def ProfIn (l : List (List S51)) : Prop := l.length * 24 ≤ 140737488351232 ∧ ∀ x ∈ l, RowIn x
theorem o22 : Opens Tryz.prog 23 (Kd.slice 53 (Kd.slice 51 k51)) ProfIn := opens_slice (B := 24) Tryz.underlying23 o77 (by kernel_rfl) (by kernel_rfl) (by decide)
theorem o24 : Opens Tryz.prog 25 (Kd.slice 53 (Kd.slice 51 k51)) ProfIn := opens_struct Tryz.underlying25 (opensF_one o22 rfl (by kernel_rfl)) (by kernel_rfl)

set_option maxRecDepth 100000 in
/-- A profile that comes in. -/
theorem open_prof {H : Type} {enc : TypeId × Value → H} {W : World} {base : Nat} {spare : Nat → Bool} {held : Bool} {r : Reach} {b0 : Nat} {v : Value} {d : DataW H} {p : List MemPlace} (hv : Value.okWide Tryz.prog W r b0 25 v)
    (h : DataW.Trod enc Tryz.prog W base spare held 25 v d p) (hw : ∀ n ∈ d.weights Tryz.prog 25, n ≤ reachBytes) :
    ∃ (A : Option Addr) (c : Nat) (l : List (List S51)), v = .agg #[.slice A l.length c] ∧ l.length ≤ c ∧ Kd.C (Kd.slice 51 k51) W A l.length l ∧ ProfIn l := by
  obtain ⟨l, hK, hG⟩ := opened o24 h hw
  obtain ⟨cs, rfl, hcs⟩ := okWide_struct Tryz.underlying25 hv
  obtain ⟨A, c, he, hl, hr⟩ := hK
  refine ⟨A, c, l, ?_, hl, hr, hG⟩
  cases cs
  simp [Value.cells] at he
  rw [he]
end Go.Proofs.YtjeaojolhdfpeaaGreat.TypesZ
