/- More of how arguments open: bytes; a value of a slice's type; a struct of one slice. -/
import Derived.Test.YtjeaojolhdfpeaaOpen
namespace Go.Proofs.Ytjeaojolhdfpeaa.Open
open Go.RowKit Go.WideShapes Go.ChangeShapes Go.ChangeAt
open Go.Proofs.YtjeaojolhdfpeaaW.PrintWords
set_option linter.unusedVariables false

theorem in_u8 {n : Int} (h : (Lit.int .u8 n).wf = true) : 0 ≤ n ∧ n < 256 := by
  have h2 : 0 ≤ n ∧ n ≤ 255 := by simpa [Lit.wf, IntKind.min, IntKind.max, IntKind.signed, IntKind.bits] using h
  omega
section
variable {P : Program} {t e : TypeId} {α : Type} {d : Kd α} {G : List α → Prop}
/-- An argument of a slice's type. -/
theorem open_row {H : Type} {enc : TypeId × Value → H} {W : World} {base : Nat} {spare : Nat → Bool} {held : Bool} {r : Reach} {b0 : Nat} {v : Value} {dat : DataW H} {p : List MemPlace} (ht : P.underlying t = some (.slice e)) (ho : Opens P t (Kd.slice e d) G) (hv : Value.okWide P W r b0 t v)
    (h : DataW.Trod enc P W base spare held t v dat p) (hw : ∀ n ∈ dat.weights P t, n ≤ reachBytes) :
    ∃ (A : Option Addr) (c : Nat) (l : List α), v = .slice A l.length c ∧ l.length ≤ c ∧ Kd.C d W A l.length l ∧ G l := by
  obtain ⟨l, hK, hG⟩ := opened ho h hw
  obtain ⟨a, n, c', rfl⟩ := okWide_slice ht hv
  obtain ⟨A, c, he, hl, hr⟩ := hK
  have he2 : [Value.slice a n c'] = [.slice A l.length c] := he
  injection he2 with he2 _
  exact ⟨A, c, l, he2, hl, hr, hG⟩
end
end Go.Proofs.Ytjeaojolhdfpeaa.Open
