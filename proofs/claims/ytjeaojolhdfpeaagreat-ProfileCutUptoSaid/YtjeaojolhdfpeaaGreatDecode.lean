/- profile.Decode: the profile that bytes are, or the error of what is wrong first. -/
import Derived.Test.YtjeaojolhdfpeaaGreatSpotOf
import Derived.Test.YtjeaojolhdfpeaaGreatRaw
namespace Go.Proofs.YtjeaojolhdfpeaaGreat.Decode
open Go.RowKit Go.Proofs.YtjeaojolhdfpeaaGreatW.PrintWords Go.Proofs.YtjeaojolhdfpeaaGreatW.PrintLast Go.Proofs.YtjeaojolhdfpeaaGreatW.PrintMore
open Go.Proofs.YtjeaojolhdfpeaaGreat.PProfileCut Go.Proofs.YtjeaojolhdfpeaaGreat.Reader Go.Proofs.YtjeaojolhdfpeaaGreat.Methods Go.Proofs.YtjeaojolhdfpeaaGreat.SpotOf Go.Proofs.YtjeaojolhdfpeaaGreat.Raw
set_option linter.unusedVariables false
set_option linter.unusedSimpArgs false

/-- So many spots behind those that were read: the error, the spots, the place. -/
def spotsA (bs : List Int) : Nat → List S51 → Nat → Int × List S51 × Nat
  | 0, l, a => (0, l, a)
  | m + 1, l, a => if (spotR bs a).1 ≠ 0 then ((spotR bs a).1, l, a) else spotsA bs m (l ++ [(spotR bs a).2.1]) (spotR bs a).2.2
/-- So many functions' spots: the error that a spot gave, the rows, the place, the reader's error. -/
def rowsA (bs : List Int) : Nat → List (List S51) → Nat → Int → Int × List (List S51) × Nat × Int
  | 0, ls, a, e => (0, ls, a, e)
  | n + 1, ls, a, e =>
    if (spotsA bs (countR bs a 2000 e).1.toNat [] (countR bs a 2000 e).2.1).1 ≠ 0 then ((spotsA bs (countR bs a 2000 e).1.toNat [] (countR bs a 2000 e).2.1).1, ls, a, e)
    else rowsA bs n (ls ++ [(spotsA bs (countR bs a 2000 e).1.toNat [] (countR bs a 2000 e).2.1).2.1]) (spotsA bs (countR bs a 2000 e).1.toNat [] (countR bs a 2000 e).2.1).2.2 (countR bs a 2000 e).2.2
def magic : List Int := [80, 84, 70, 1]
def dec (bs : List Int) : Int × List (List S51) :=
  if bs.length < 4 then (2, [])
  else if bs.take 4 ≠ magic then (4, [])
  else if (rowsA bs (countR bs 4 128 0).1.toNat [] (countR bs 4 128 0).2.1 (countR bs 4 128 0).2.2).1 ≠ 0 then ((rowsA bs (countR bs 4 128 0).1.toNat [] (countR bs 4 128 0).2.1 (countR bs 4 128 0).2.2).1, [])
  else if (rowsA bs (countR bs 4 128 0).1.toNat [] (countR bs 4 128 0).2.1 (countR bs 4 128 0).2.2).2.2.2 ≠ 0 then ((rowsA bs (countR bs 4 128 0).1.toNat [] (countR bs 4 128 0).2.1 (countR bs 4 128 0).2.2).2.2.2, [])
  else if (rowsA bs (countR bs 4 128 0).1.toNat [] (countR bs 4 128 0).2.1 (countR bs 4 128 0).2.2).2.2.1 < bs.length then (3, [])
  else (0, (rowsA bs (countR bs 4 128 0).1.toNat [] (countR bs 4 128 0).2.1 (countR bs 4 128 0).2.2).2.1)

theorem spotR_le (bs : List Int) (a : Nat) (hb : Bytes bs) (ha : a ≤ bs.length) : (spotR bs a).2.2 ≤ bs.length := by
  have hf : ∀ (fl : Int) (d : Nat) (s : S51) (a : Nat), a ≤ bs.length → (fieldsR bs fl d s a).2.2 ≤ bs.length := by
    intro fl d
    induction d with
    | zero => intro s a ha; exact ha
    | succ d ih =>
      intro s a ha
      have h := uintR_le bs a 0 hb ha
      simp only [fieldsR]
      repeat' split
      all_goals first | exact ih _ _ ha | exact ih _ _ h.1 | exact ha
  unfold spotR
  repeat' split
  · exact ha
  · exact hf _ _ _ _ (by omega)
  · exact ha
theorem countR_range (bs : List Int) (a : Nat) (most err : Int) (hb : Bytes bs) (ha : a ≤ bs.length) (hm : 0 ≤ most) : 0 ≤ (countR bs a most err).1 ∧ (countR bs a most err).1 ≤ most ∧ (countR bs a most err).2.1 ≤ bs.length := by
  have h := num_range bs a hb
  unfold countR rdNum cnt
  repeat' split
  all_goals simp only
  all_goals simp_all
  all_goals omega

set_option maxHeartbeats 8000000 in
set_option maxRecDepth 100000 in
/-- A reader of bytes; w1 is the world behind the clone. -/
theorem newReader (A : Option Addr) (c : Nat) (bs : List Int) (w0 w : World) (hB : Below w0.heap.size w0 w) (hr : Kd.C (Kd.int .u8) w A bs.length bs) (hl : bs.length ≤ 140737488355328) :
    Calls Tryz.prog 52 #[.slice A bs.length c] w fun e w' => ∃ (w1 : World) (g : Nat) (A' : Option Addr) (c' : Nat), e = .returned (.pointer (some ⟨g, 0, none⟩)) ∧ Below w.heap.size w w1 ∧ Rc w1 w' g A' c' bs 0 0 := by
  have HR := Aside0.mk hr
  have HB := Aside0.mk hB
  clear hr hB
  go_enter Tryz.func52, Tryz.ntmps52
  go_wp2_with (go_at_call 96; refine (Clone.clone w0 w bs A bs.length c HB.out HR.out hl).mono ?_; rintro e w1 ⟨v, rfl, hR, hb⟩; obtain ⟨A', c', rfl⟩ := Kd.R_slice hR; have HR1 := Aside0.mk (Kd.R_reads' hR); have HB1 := Aside0.mk hb; clear hR hb)
  go_ret
  exact ⟨w1, _, A', c', rfl, HB1.out, ⟨blk_new _ _, Nat.le_refl _, HR1.out.2.2, HR1.out.2.1, below_alloc (Below.refl _ _) _⟩⟩
end Go.Proofs.YtjeaojolhdfpeaaGreat.Decode
