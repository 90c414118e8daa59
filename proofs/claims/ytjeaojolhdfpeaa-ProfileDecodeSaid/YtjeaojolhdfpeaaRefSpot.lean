/- The reference's field and spot. -/
import Derived.Test.YtjeaojolhdfpeaaRefReader2
import Derived.Test.YtjeaojolhdfpeaaSpotOf
namespace Go.Proofs.Ytjeaojolhdfpeaa.RefReader
open Go.RowKit Go.Proofs.YtjeaojolhdfpeaaW.PrintWords Go.Proofs.YtjeaojolhdfpeaaW.PrintLast Go.Proofs.YtjeaojolhdfpeaaW.PrintMore
open Go.Proofs.Ytjeaojolhdfpeaa.PProfileDecode Go.Proofs.Ytjeaojolhdfpeaa.Reader Go.Proofs.Ytjeaojolhdfpeaa.Methods Go.Proofs.Ytjeaojolhdfpeaa.NumRef
set_option linter.unusedVariables false
set_option linter.unusedSimpArgs false

/-- A field: the number, the error, the place, the reader's error. -/
def fieldR (bs : List Int) (a : Nat) (most : Int) : Int × Int × Nat × Int :=
  if (uintR bs a 0).2.2 ≠ 0 then (0, (uintR bs a 0).2.2, (uintR bs a 0).2.1, (uintR bs a 0).2.2)
  else if (uintR bs a 0).1 = 0 then (0, 4, (uintR bs a 0).2.1, 0)
  else if (uintR bs a 0).1 > most then (0, 1, (uintR bs a 0).2.1, 0)
  else ((uintR bs a 0).1, 0, (uintR bs a 0).2.1, 0)

set_option maxHeartbeats 8000000 in
set_option maxRecDepth 100000 in
theorem field (g : Nat) (A : Option Addr) (c : Nat) (bs : List Int) (a : Nat) (most : Int) (w0 w0' w : World) (h : Rr w0 w0' w g A c bs a 0) (hb : Bytes bs) (ha : a ≤ bs.length) (hl : bs.length ≤ 140737488355328) :
    Calls Try.prog 91 #[.pointer (some ⟨g, 0, none⟩), .int .u64 most] w fun e w' => e = .returned (.tuple #[.int .u64 (fieldR bs a most).1, .int .i64 (fieldR bs a most).2.1]) ∧ Rr w0 w0' w' g A c bs (fieldR bs a most).2.2.1 (fieldR bs a most).2.2.2 := by
  have H := Aside0.mk (uint g A c bs a 0 w0 w0' w h hb ha hl)
  clear h
  unfold fieldR
  obtain ⟨⟨x, n, e'⟩, hr⟩ : ∃ r, r = uintR bs a 0 := ⟨_, rfl⟩
  rw [← hr] at H ⊢
  clear hr
  simp only at H ⊢
  by_cases he : e' = 0
  · rw [if_neg (by simpa using he)]
    subst he
    by_cases hx : x = 0
    · rw [if_pos hx]
      have b1 : (x == 0) = true := by simpa using hx
      go_enter Try.func91, Try.ntmps91
      go_wp2_with (go_at_call 117; refine H.out.mono ?_; rintro e w1 ⟨rfl, h1⟩; obtain ⟨c0, c1, c2, _, _⟩ := h1.look; have H1 := Aside0.mk h1; clear h1)
      go_ret2
      exact ⟨rfl, H1.out⟩
    · rw [if_neg hx]
      have b1 : (x == 0) = false := by simpa using hx
      by_cases hm : x > most
      · rw [if_pos hm]
        have b2 : decide (most < x) = true := decide_eq_true hm
        go_enter Try.func91, Try.ntmps91
        go_wp2_with (go_at_call 117; refine H.out.mono ?_; rintro e w1 ⟨rfl, h1⟩; obtain ⟨c0, c1, c2, _, _⟩ := h1.look; have H1 := Aside0.mk h1; clear h1)
        go_ret2
        exact ⟨rfl, H1.out⟩
      · rw [if_neg hm]
        have b2 : decide (most < x) = false := decide_eq_false hm
        go_enter Try.func91, Try.ntmps91
        go_wp2_with (go_at_call 117; refine H.out.mono ?_; rintro e w1 ⟨rfl, h1⟩; obtain ⟨c0, c1, c2, _, _⟩ := h1.look; have H1 := Aside0.mk h1; clear h1)
        go_ret2
        exact ⟨rfl, H1.out⟩
  · rw [if_pos he]
    have b1 : (e' != 0) = true := by simpa using he
    go_enter Try.func91, Try.ntmps91
    go_wp2_with (go_at_call 117; refine H.out.mono ?_; rintro e w1 ⟨rfl, h1⟩; obtain ⟨c0, c1, c2, _, _⟩ := h1.look; have H1 := Aside0.mk h1; clear h1)
    repeat (go_quiet (fail); try go_wp2)
    go_ret2
    exact ⟨rfl, H1.out.drewN _⟩
end Go.Proofs.Ytjeaojolhdfpeaa.RefReader
