/- Profile's book: what a note does to it. No program is walked. -/
import Derived.Test.YtjeaojolhdfpeaaGreatBookN
namespace Go.Proofs.YtjeaojolhdfpeaaGreat.BookO
open Go.RowKit Go.Maps Go.Proofs.YtjeaojolhdfpeaaGreatW.PrintWords Go.Proofs.YtjeaojolhdfpeaaGreatW.PrintLast Go.Proofs.YtjeaojolhdfpeaaGreatW.PrintMore
open Go.Proofs.YtjeaojolhdfpeaaGreat.PProfileCut Go.Proofs.YtjeaojolhdfpeaaGreat.BookK Go.Proofs.YtjeaojolhdfpeaaGreat.BookB Go.Proofs.YtjeaojolhdfpeaaGreat.BookN
set_option linter.unusedVariables false
set_option linter.unusedSimpArgs false

/-- The bit of a value's kind, by its place from the end. -/
def bitP (l : List S48) (back : Nat) : Int :=
  if l.length < back then 0 else if 0 ≤ (rd_T48 l ((l.length - back : Nat) : Int)).f0 ∧ (rd_T48 l ((l.length - back : Nat) : Int)).f0 ≤ 9 then shl .u16 1 (rd_T48 l ((l.length - back : Nat) : Int)).f0 else 0
theorem w64 {x : Int} (h1 : -9223372036854775808 ≤ x) (h2 : x ≤ 9223372036854775807) : wrap64 x = x := by unfold wrap64; omega
theorem bit_code (l : List S48) (b : Nat) (hb : 1 ≤ b) (hl : l.length ≤ 4611686018427387904) (hb2 : b ≤ 2) : profile_bit.f l (b : Int) = some (bitP l b) := by
  unfold profile_bit.f bitP
  by_cases h : l.length < b
  · rw [if_pos (by omega), if_pos h]
  · have e : wrap64 ((l.length : Int) - (b : Int)) = ((l.length - b : Nat) : Int) := by rw [w64 (by omega) (by omega)]; omega
    rw [if_neg (by omega), if_neg h, e, if_pos (by omega), if_pos (by omega)]
    generalize (rd_T48 l ((l.length - b : Nat) : Int)).f0 = z
    by_cases h1 : z ≥ 0
    · rw [if_pos h1]
      by_cases h2 : z ≤ 9
      · rw [if_pos h2, if_pos h1, if_pos ⟨h1, h2⟩]
      · rw [if_neg h2, if_neg (fun h => h2 h.2)]
    · rw [if_neg h1, if_neg (fun h => h1 h.1)]
def clP (a b : Int) : Int := if a = 0 then b else if b = 0 ∨ a = b then a else -1
theorem callees_code (a b : Int) : profile_callees.f a b = some (clP a b) := by
  unfold profile_callees.f clP
  repeat' split
  all_goals simp_all
def cnP (a : Int) : Int := if a < 9223372036854775807 then a + 1 else a
/-- A spot behind a note. -/
def spN (s : S51) (l : List S48) (callee : Int) : S51 := ⟨cnP s.f0, Go.bits .or .u16 s.f1 (bitP l 1), Go.bits .or .u16 s.f2 (bitP l 2), clP s.f3 callee⟩
/-- The rows behind a note. -/
def noteF (F : List (List S51)) (fn pc : Int) (l : List S48) (callee : Int) : List (List S51) :=
  if 0 ≤ fn ∧ fn < F.length ∧ 0 ≤ pc ∧ pc < (rw_ F fn.toNat).length then st F fn.toNat pc.toNat (spN (gt F fn.toNat pc.toNat) l callee) else F
theorem wrap_nat (i n : Nat) (h : i < n) (hn : n ≤ 9223372036854775807) : wrap64 ((i : Int) + 1) = ((i + 1 : Nat) : Int) := by unfold wrap64; omega
end Go.Proofs.YtjeaojolhdfpeaaGreat.BookO
