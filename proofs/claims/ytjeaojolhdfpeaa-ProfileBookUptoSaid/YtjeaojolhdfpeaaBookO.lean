/- Profile's book: what a note does to it; and that the reference's Note does the same. No program. -/
import Derived.Test.YtjeaojolhdfpeaaBookN
import Derived.Test.YtjeaojolhdfpeaaBookBit
import Derived.Test.YtjeaojolhdfpeaaPProfileBookx6
import Derived.Test.YtjeaojolhdfpeaaPProfileBookx7
namespace Go.Proofs.Ytjeaojolhdfpeaa.BookO
open Go.RowKit Go.Maps Go.Proofs.YtjeaojolhdfpeaaW.PrintWords Go.Proofs.YtjeaojolhdfpeaaW.PrintLast Go.Proofs.YtjeaojolhdfpeaaW.PrintMore
open Go.Proofs.Ytjeaojolhdfpeaa.PProfileBook Go.Proofs.Ytjeaojolhdfpeaa.BookK Go.Proofs.Ytjeaojolhdfpeaa.BookB Go.Proofs.Ytjeaojolhdfpeaa.BookN
set_option linter.unusedVariables false
set_option linter.unusedSimpArgs false

/-- The bit of a value's kind, by its place from the end. -/
def bitP (l : List S137) (back : Nat) : Int :=
  if l.length < back then 0 else if 0 ≤ (rd_T137 l ((l.length - back : Nat) : Int)).f0 ∧ (rd_T137 l ((l.length - back : Nat) : Int)).f0 ≤ 9 then shl .u16 1 (rd_T137 l ((l.length - back : Nat) : Int)).f0 else 0
theorem w64 {x : Int} (h1 : -9223372036854775808 ≤ x) (h2 : x ≤ 9223372036854775807) : wrap64 x = x := by unfold wrap64; omega
theorem bit_code (l : List S137) (b : Nat) (hb : 1 ≤ b) (hl : l.length ≤ 4611686018427387904) (hb2 : b ≤ 2) : profile_bit.f l (b : Int) = some (bitP l b) := by
  unfold profile_bit.f bitP
  by_cases h : l.length < b
  · rw [if_pos (by omega), if_pos h]
  · have e : wrap64 ((l.length : Int) - (b : Int)) = ((l.length - b : Nat) : Int) := by rw [w64 (by omega) (by omega)]; omega
    rw [if_neg (by omega), if_neg h, e, if_pos (by omega), if_pos (by omega)]
    generalize (rd_T137 l ((l.length - b : Nat) : Int)).f0 = z
    by_cases h1 : z ≥ 0
    · rw [if_pos h1]
      by_cases h2 : z ≤ 9
      · rw [if_pos h2, if_pos h1, if_pos ⟨h1, h2⟩]
      · rw [if_neg h2, if_neg (fun h => h2 h.2)]
    · rw [if_neg h1, if_neg (fun h => h1 h.1)]
theorem bit_ref (l : List S137) (b : Nat) (hb : 1 ≤ b) (hl : l.length ≤ 4611686018427387904) (hb2 : b ≤ 2) : portageref18_bit.f l ((b : Int) - 1) = some (bitP l b) := by
  unfold portageref18_bit.f bitP
  have e0 : wrap64 (wrap64 ((l.length : Int) - 1) - ((b : Int) - 1)) = (l.length : Int) - b := by
    rw [w64 (x := (l.length : Int) - 1) (by omega) (by omega), w64 (by omega) (by omega)]
    omega
  rw [e0]
  by_cases h : l.length < b
  · rw [if_pos (by omega), if_pos h]
  · have e : (l.length : Int) - (b : Int) = ((l.length - b : Nat) : Int) := by omega
    rw [if_neg (by omega), if_neg h, e, if_pos (by omega), if_pos (by omega)]
    generalize (rd_T137 l ((l.length - b : Nat) : Int)).f0 = z
    by_cases h1 : z < 0
    · rw [if_pos h1, if_neg (fun h => by omega)]
    · rw [if_neg h1]
      by_cases h2 : z ≥ 10
      · rw [if_pos h2, if_neg (fun h => by omega)]
      · have e2 : IntKind.u64.wrap z = z := by
          simp only [IntKind.wrap, IntKind.signed, IntKind.bits]
          simp
          omega
        rw [if_neg h2, e2, if_pos (by omega), if_pos ⟨by omega, by omega⟩]
def clP (a b : Int) : Int := if a = 0 then b else if b = 0 ∨ a = b then a else -1
theorem callees_code (a b : Int) : profile_callees.f a b = some (clP a b) := by
  unfold profile_callees.f clP
  repeat' split
  all_goals simp_all
theorem callees_ref (a b : Int) : ∀ k, portageref18_callees.f (k + 1) a b = some (clP a b) := by
  intro k
  unfold portageref18_callees.f clP
  simp only [portageref18_callees.j0]
  by_cases h1 : a = 0
  · simp [h1]
  · rw [if_neg h1, if_neg h1]
    by_cases h2 : a = b
    · subst h2
      simp
    · have : (a == b) = false := by simpa using h2
      rw [this]
      by_cases h3 : b = 0
      · simp [h3]
      · simp [h2, h3]
def cnP (a : Int) : Int := if a < 9223372036854775807 then a + 1 else a
theorem counts_ref (a : Int) (h1 : -9223372036854775808 ≤ a) (h2 : a ≤ 9223372036854775807) : ∀ k, portageref18_counts.f (k + 1) a 1 = some (cnP a) := by
  intro k
  unfold portageref18_counts.f cnP
  simp only [portageref18_counts.j0]
  by_cases h : a ≥ 0
  · rw [if_pos h, if_pos (by decide)]
    by_cases h3 : a < 9223372036854775807
    · rw [w64 (by omega) (by omega), if_neg (by simp; omega), if_neg (by omega), if_pos h3]
    · have : a = 9223372036854775807 := by omega
      subst this
      have e : wrap64 (9223372036854775807 + 1) = -9223372036854775808 := by unfold wrap64; omega
      rw [e]
      simp
  · rw [if_neg h, w64 (by omega) (by omega), if_neg (by decide), if_pos (by omega), if_neg (by omega), if_pos (by omega)]
/-- A spot behind a note. -/
def spN (s : S28) (l : List S137) (callee : Int) : S28 := ⟨cnP s.f0, Go.bits .or .u16 s.f1 (bitP l 1), Go.bits .or .u16 s.f2 (bitP l 2), clP s.f3 callee⟩
/-- The rows behind a note. -/
def noteF (F : List (List S28)) (fn pc : Int) (l : List S137) (callee : Int) : List (List S28) :=
  if 0 ≤ fn ∧ fn < F.length ∧ 0 ≤ pc ∧ pc < (rw_ F fn.toNat).length then st F fn.toNat pc.toNat (spN (gt F fn.toNat pc.toNat) l callee) else F
theorem wrap_nat (i n : Nat) (h : i < n) (hn : n ≤ 9223372036854775807) : wrap64 ((i : Int) + 1) = ((i + 1 : Nat) : Int) := by unfold wrap64; omega
theorem row_eq (F : List (List S28)) (i : Nat) : rd_L3 F (i : Int) = rw_ F i := rfl
theorem take_succ_rw {F : List (List S28)} {i : Nat} (h : i < F.length) : F.take i ++ [rw_ F i] = F.take (i + 1) := by
  rw [List.take_add_one]
  simp [rw_, List.getD_eq_getElem?_getD, h]
theorem copy_l1 (F : List (List S28)) (hl : F.length < 5864062014805) (hr : ∀ i, (rw_ F i).length < 5864062014805) (i : Nat) (hi : i < F.length)
    (hnext : Ev (fun k => portageref0_CopyProfile.l0 k ((i + 1 : Nat) : Int) F (F.take (i + 1))) F) (d : Nat) : ∀ j : Nat, j ≤ (rw_ F i).length → (rw_ F i).length - j = d → Ev (fun k => portageref0_CopyProfile.l1 k (i : Int) ((rw_ F i).take j) (j : Int) F (F.take i)) F := by
  have hri := hr i
  induction d with
  | zero =>
    intro j hj hd
    obtain rfl : j = (rw_ F i).length := by omega
    refine Ev.step (fun k => ?_) hnext
    simp only [portageref0_CopyProfile.l1]
    rw [row_eq]
    rw [if_pos (show (0 : Int) ≤ (i : Int) by omega), if_pos (show (i : Int) < (F.length : Int) by omega), if_neg (show ¬ ((rw_ F i).length : Int) < ((rw_ F i).length : Int) by omega), if_pos (show (F.take i).length < 5864062014805 by rw [List.length_take]; omega), List.take_length, take_succ_rw hi, wrap_nat i _ hi (by omega)]
  | succ d ih =>
    intro j hj hd
    refine Ev.step (fun k => ?_) (ih (j + 1) (by omega) (by omega))
    simp only [portageref0_CopyProfile.l1]
    rw [row_eq]
    rw [if_pos (show (0 : Int) ≤ (i : Int) by omega), if_pos (show (i : Int) < (F.length : Int) by omega), if_pos (show (j : Int) < ((rw_ F i).length : Int) by omega), if_pos (show (0 : Int) ≤ (j : Int) by omega), if_pos (show ((rw_ F i).take j).length < 5864062014805 by rw [List.length_take]; omega), wrap_nat j (rw_ F i).length (by omega) (by omega)]
    have e : (rw_ F i).take j ++ [(⟨(rd_T28 (rw_ F i) (j : Int)).f0, (rd_T28 (rw_ F i) (j : Int)).f1, (rd_T28 (rw_ F i) (j : Int)).f2, (rd_T28 (rw_ F i) (j : Int)).f3⟩ : S28)] = (rw_ F i).take (j + 1) := by
      rw [List.take_add_one]
      have hj2 : j < (rw_ F i).length := by omega
      simp only [rd_T28, List.getD_eq_getElem?_getD, Int.toNat_natCast, List.getElem?_eq_getElem hj2, Option.getD_some]
      show _ = (rw_ F i).take j ++ [(rw_ F i)[j]]
      cases (rw_ F i)[j]
      rfl
    rw [e]
theorem copy_l0 (F : List (List S28)) (hl : F.length < 5864062014805) (hr : ∀ i, (rw_ F i).length < 5864062014805) (d : Nat) : ∀ i : Nat, i ≤ F.length → F.length - i = d → Ev (fun k => portageref0_CopyProfile.l0 k (i : Int) F (F.take i)) F := by
  induction d with
  | zero =>
    intro i hi hd
    obtain rfl : i = F.length := by omega
    refine Ev.step (fun k => ?_) (Ev.now F)
    simp only [portageref0_CopyProfile.l0]
    rw [if_neg (by omega), List.take_length]
  | succ d ih =>
    intro i hi hd
    refine Ev.step (fun k => ?_) (copy_l1 F hl hr i (by omega) (ih (i + 1) (by omega) (by omega)) _ 0 (Nat.zero_le _) rfl)
    simp only [portageref0_CopyProfile.l0]
    rw [if_pos (by omega)]
    rfl
theorem copy_ev (F : List (List S28)) (hl : F.length < 5864062014805) (hr : ∀ i, (rw_ F i).length < 5864062014805) : Ev (fun k => portageref0_CopyProfile.f k F) F := copy_l0 F hl hr _ 0 (Nat.zero_le _) rfl
theorem ref_note (F : List (List S28)) (hl : F.length < 5864062014805) (hr : ∀ i, (rw_ F i).length < 5864062014805) (hg : ∀ i j, -9223372036854775808 ≤ (gt F i j).f0 ∧ (gt F i j).f0 ≤ 9223372036854775807) (fn pc : Int) (l : List S137) (hll : l.length ≤ 4611686018427387904) (callee : Int) :
    ∃ k, portageref18_Note.f k F fn pc l callee = some (noteF F fn pc l callee) := by
  suffices h : Ev (fun k => portageref18_Note.f k F fn pc l callee) (noteF F fn pc l callee) from h.rounds
  unfold portageref18_Note.f
  refine Ev.bind (copy_ev F hl hr) ?_
  unfold noteF
  by_cases h1 : fn < 0
  · rw [if_neg (fun h => by omega)]
    refine Ev.step (fun k => ?_) (Ev.now F)
    simp only [portageref18_Note.j0]
    rw [if_pos h1, if_pos trivial]
  · by_cases h2 : fn ≥ (F.length : Int)
    · rw [if_neg (fun h => by omega)]
      refine Ev.step (fun k => ?_) (Ev.now F)
      simp only [portageref18_Note.j0]
      rw [if_neg h1, if_pos h2, if_pos trivial]
    · by_cases h3 : pc < 0
      · rw [if_neg (fun h => by omega)]
        refine Ev.step (fun k => ?_) (Ev.now F)
        simp only [portageref18_Note.j0]
        rw [if_neg h1, if_neg h2, if_pos h3, if_pos trivial]
      · obtain ⟨i, rfl⟩ : ∃ i : Nat, fn = (i : Int) := ⟨fn.toNat, by omega⟩
        obtain ⟨j, rfl⟩ : ∃ j : Nat, pc = (j : Int) := ⟨pc.toNat, by omega⟩
        simp only [Int.toNat_natCast]
        by_cases h4 : (j : Int) ≥ ((rw_ F i).length : Int)
        · rw [if_neg (fun h => by omega)]
          refine Ev.step (fun k => ?_) (Ev.now F)
          simp only [portageref18_Note.j0]
          rw [row_eq]
          rw [if_neg h1, if_neg h2, if_neg h3, if_pos (by omega), if_pos (by omega), decide_eq_true h4, if_pos rfl]
        · rw [if_pos ⟨by omega, by omega, by omega, by omega⟩]
          refine Ev.step (f := fun k => if k = 0 then none else some (st F i j (spN (gt F i j) l callee))) (fun k => ?_) ⟨1, fun k hk => if_neg (by omega)⟩
          simp only [portageref18_Note.j0]
          rw [row_eq]
          rw [if_neg h1, if_neg h2, if_neg h3, if_pos (by omega), if_pos (by omega), decide_eq_false h4, if_neg (by decide), if_pos (by omega), if_pos (by omega), if_pos (by omega), if_pos (by omega)]
          have b1 := bit_ref l 1 (by omega) hll (by omega)
          have b2 := bit_ref l 2 (by omega) hll (by omega)
          have e1 : ((1 : Nat) : Int) - 1 = 0 := rfl
          have e2 : ((2 : Nat) : Int) - 1 = 1 := rfl
          rw [e1] at b1
          rw [e2] at b2
          rw [b1, b2]
          simp only [Option.bind_some]
          have hx : rd_T28 (rw_ F i) (j : Int) = gt F i j := rfl
          rw [hx]
          cases k with
          | zero =>
            simp [portageref18_Spots.f, portageref18_counts.f, portageref18_counts.j0]
          | succ k =>
            unfold portageref18_Spots.f
            rw [counts_ref _ (hg i j).1 (hg i j).2 k, callees_ref]
            rfl
end Go.Proofs.Ytjeaojolhdfpeaa.BookO
