/- The reference's Byte and End, the room behind the bytes kept. -/
import Derived.Test.YtjeaojolhdfpeaaRefRead
namespace Go.Proofs.Ytjeaojolhdfpeaa.RefReader
open Go.RowKit Go.Proofs.YtjeaojolhdfpeaaW.PrintWords Go.Proofs.YtjeaojolhdfpeaaW.PrintLast Go.Proofs.YtjeaojolhdfpeaaW.PrintMore
open Go.Proofs.Ytjeaojolhdfpeaa.PProfileDecode Go.Proofs.Ytjeaojolhdfpeaa.Reader Go.Proofs.Ytjeaojolhdfpeaa.Methods Go.Proofs.Ytjeaojolhdfpeaa.NumRef
set_option linter.unusedVariables false
set_option linter.unusedSimpArgs false

theorem look_at (g : Nat) (A : Option Addr) (c : Nat) (bs : List Int) (a : Nat) (e : Int) (w0 w w1 : World) (h : Rr w0 w w1 g A c bs a e) (j : Nat) (hj : j < bs.length) : ∃ ad, A = some ad ∧ w1.cell? (ad.add j) = some (.int .u8 (rd bs j)) := by
  obtain ⟨ad, e, hx⟩ := Kd.at_int h.row (j : Int) (by omega) (by omega)
  exact ⟨ad, e, by simpa using pw_cell_below h.below hx⟩
set_option maxHeartbeats 8000000 in
set_option maxRecDepth 100000 in
theorem byte (g : Nat) (A : Option Addr) (c : Nat) (bs : List Int) (a : Nat) (w0 w0' w : World) (h : Rr w0 w0' w g A c bs a 0) :
    Calls Try.prog 90 #[.pointer (some ⟨g, 0, none⟩)] w fun e w' => e = .returned (.int .u8 (byteR bs a 0).1) ∧ Rr w0 w0' w' g A c bs (byteR bs a 0).2.1 (byteR bs a 0).2.2 := by
  have H := Aside0.mk h
  obtain ⟨h0, h1, h2, f1, f2⟩ := h.look
  have hmax := Kd.C_max h.row
  unfold byteR rdNum
  rw [if_neg (by simp)]
  by_cases hlt : a < bs.length
  · rw [if_pos hlt, if_pos rfl]
    obtain ⟨ad, rfl, hx⟩ := look_at g A c bs a 0 w0 w0' w h a hlt
    clear h
    have p1 : decide ((bs.length : Int) ≤ (a : Int)) = false := by simp; omega
    have p4 : decide (bs.length ≤ a) = false := by simp; omega
    have p2 : (0 ≤ (a : Int)) = True := by simp
    have p3 : ((a : Int) < (bs.length : Int)) = True := by simp; omega
    go_enter Try.func90, Try.ntmps90
    go_wp2
    repeat (go_quiet (fail); try go_wp2)
    go_ret
    exact ⟨rfl, by first | exact (H.out.drewN _).set1 _ | exact ((H.out.drewN _).drewN _).set1 _ | exact ((H.out.drewN _).set1 _).drewN _⟩
  · rw [if_neg hlt, if_neg (by decide)]
    clear h
    have p1 : decide ((bs.length : Int) ≤ (a : Int)) = true := by simp; omega
    have p4 : decide (bs.length ≤ a) = true := by simp; omega
    go_enter Try.func90, Try.ntmps90
    go_wp2
    repeat (go_quiet (fail); try go_wp2)
    go_ret
    exact ⟨rfl, by first | exact (H.out.drewN _).set2 _ | exact ((H.out.drewN _).set2 _).drewN _⟩
def endR (bs : List Int) (a : Nat) (e : Int) : Int := if e = 0 then if a < bs.length then 3 else 0 else e
set_option maxHeartbeats 8000000 in
set_option maxRecDepth 100000 in
theorem end_ (g : Nat) (A : Option Addr) (c : Nat) (bs : List Int) (a : Nat) (err : Int) (w0 w0' w : World) (h : Rr w0 w0' w g A c bs a err) :
    Calls Try.prog 57 #[.pointer (some ⟨g, 0, none⟩)] w fun e w' => e = .returned (.int .i64 (endR bs a err)) ∧ ∃ e2, Rr w0 w0' w' g A c bs a e2 := by
  have H := Aside0.mk h
  obtain ⟨h0, h1, h2, f1, f2⟩ := h.look
  clear h
  unfold endR
  by_cases he : err = 0
  · subst he
    rw [if_pos rfl]
    by_cases hlt : a < bs.length
    · rw [if_pos hlt]
      have p1 : decide ((a : Int) < (bs.length : Int)) = true := by simp; omega
      have p4 : decide (a < bs.length) = true := by simp; omega
      go_enter Try.func57, Try.ntmps57
      go_wp2
      repeat (go_quiet (fail); try go_wp2)
      go_ret
      exact ⟨rfl, by first | exact ⟨_, H.out⟩ | exact ⟨_, H.out.drewN _⟩ | exact ⟨_, (H.out.drewN _).drewN _⟩⟩
    · rw [if_neg hlt]
      have p1 : decide ((a : Int) < (bs.length : Int)) = false := by simp; omega
      have p4 : decide (a < bs.length) = false := by simp; omega
      go_enter Try.func57, Try.ntmps57
      go_wp2
      repeat (go_quiet (fail); try go_wp2)
      go_ret
      exact ⟨rfl, by first | exact ⟨_, H.out⟩ | exact ⟨_, H.out.drewN _⟩ | exact ⟨_, (H.out.drewN _).drewN _⟩⟩
  · rw [if_neg he]
    have b1 : (err == 0) = false := by simpa using he
    go_enter Try.func57, Try.ntmps57
    go_wp2
    repeat (go_quiet (fail); try go_wp2)
    go_ret
    exact ⟨rfl, by first | exact ⟨_, H.out⟩ | exact ⟨_, H.out.drewN _⟩ | exact ⟨_, (H.out.drewN _).drewN _⟩⟩
end Go.Proofs.Ytjeaojolhdfpeaa.RefReader
