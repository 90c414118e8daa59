/- The reference's Reader: its state (the room behind its bytes told), Uint. -/
import Derived.Test.YtjeaojolhdfpeaaNumRefs
import Derived.Test.YtjeaojolhdfpeaaMethods
import Derived.Deep.RegionHeld3
namespace Go.Proofs.Ytjeaojolhdfpeaa.RefReader
open Go.RowKit Go.Proofs.YtjeaojolhdfpeaaW.PrintWords Go.Proofs.YtjeaojolhdfpeaaW.PrintLast Go.Proofs.YtjeaojolhdfpeaaW.PrintMore
open Go.Proofs.Ytjeaojolhdfpeaa.PProfileDecode Go.Proofs.Ytjeaojolhdfpeaa.Reader Go.Proofs.Ytjeaojolhdfpeaa.Methods Go.Proofs.Ytjeaojolhdfpeaa.NumRef
set_option linter.unusedVariables false
set_option linter.unusedSimpArgs false

/-- A reader at block g over the row A, c of the world w0, moved since w. -/
structure Rr (w0 w w' : World) (g : Nat) (A : Option Addr) (c : Nat) (bs : List Int) (a e : Int) : Prop where
  blk : w'.heap[g]? = some (.cells #[.slice A bs.length c, .int .i64 a, .int .i64 e] 95 (0, 0))
  ge : w0.heap.size ≤ g
  row : Kd.C (Kd.int .u8) w0 A bs.length bs
  room : bs.length ≤ c
  below : Below w0.heap.size w0 w'
  keep : KeepBut w w' g none
namespace Rr
variable {w0 w w1 w2 : World} {g c : Nat} {A : Option Addr} {bs : List Int} {a e a' e' : Int}
theorem drewN (h : Rr w0 w w1 g A c bs a e) (n : Nat) : Rr w0 w (w1.drewN n) g A c bs a e := ⟨h.blk, h.ge, h.row, h.room, pw_below_drewN h.below n, keep_drewN h.keep n⟩
theorem drew (h : Rr w0 w w1 g A c bs a e) : Rr w0 w w1.drew g A c bs a e := ⟨h.blk, h.ge, h.row, h.room, below_drew h.below, keep_drew h.keep⟩
theorem alloc (h : Rr w0 w w1 g A c bs a e) (o : Obj) : Rr w0 w (w1.alloc o) g A c bs a e := ⟨blk_alloc h.blk o, h.ge, h.row, h.room, below_alloc h.below o, keep_alloc h.keep o⟩
theorem set1 (h : Rr w0 w w1 g A c bs a e) (x : Int) : Rr w0 w (w1.setCell ⟨g, 1, none⟩ (.int .i64 x)) g A c bs x e := ⟨by simpa using blk_set h.blk 1 (.int .i64 x), h.ge, h.row, h.room, below_set h.below h.ge, h.keep.set_ 1 _⟩
theorem set2 (h : Rr w0 w w1 g A c bs a e) (x : Int) : Rr w0 w (w1.setCell ⟨g, 2, none⟩ (.int .i64 x)) g A c bs a x := ⟨by simpa using blk_set h.blk 2 (.int .i64 x), h.ge, h.row, h.room, below_set h.below h.ge, h.keep.set_ 2 _⟩
theorem look (h : Rr w0 w w1 g A c bs a e) : w1.cell? ⟨g, 0, none⟩ = some (.slice A bs.length c) ∧ w1.cell? ⟨g, 1, none⟩ = some (.int .i64 a) ∧ w1.cell? ⟨g, 2, none⟩ = some (.int .i64 e) ∧ w1.frozen? ⟨g, 1, none⟩ = false ∧ w1.frozen? ⟨g, 2, none⟩ = false :=
  ⟨(blk_cell h.blk 0).trans rfl, (blk_cell h.blk 1).trans rfl, (blk_cell h.blk 2).trans rfl, blk_frozen h.blk 1, blk_frozen h.blk 2⟩
end Rr

set_option maxHeartbeats 8000000 in
set_option maxRecDepth 100000 in
theorem uint (g : Nat) (A : Option Addr) (c : Nat) (bs : List Int) (a : Nat) (err : Int) (w0 w0' w : World) (h : Rr w0 w0' w g A c bs a err) (hb : Bytes bs) (ha : a ≤ bs.length) (hl : bs.length ≤ 140737488355328) :
    Calls Try.prog 117 #[.pointer (some ⟨g, 0, none⟩)] w fun e w' => e = .returned (.int .u64 (uintR bs a err).1) ∧ Rr w0 w0' w' g A c bs (uintR bs a err).2.1 (uintR bs a err).2.2 := by
  have H := Aside0.mk h
  obtain ⟨h0, h1, h2, f1, f2⟩ := h.look
  clear h
  unfold uintR rdNum
  by_cases he : err = 0
  · subst he
    rw [if_neg (by simp)]
    obtain ⟨k, hk⟩ := number_num bs a hb ha hl
    obtain ⟨⟨x, n, no⟩, hr⟩ : ∃ r, r = num bs a := ⟨_, rfl⟩
    have hr2 := hr
    rw [← hr] at hk ⊢
    clear hr
    simp only [out] at hk ⊢
    have HK := Aside0.mk hk
    clear hk
    by_cases hno : no = 0
    · subst hno
      simp only [if_true]
      go_enter Try.func117, Try.ntmps117
      go_wp2_with fail
      go_region_held3 (fun w' => w'.cell? ⟨g, 0, none⟩ = some (.slice A bs.length c) ∧ w'.cell? ⟨g, 1, none⟩ = some (.int .i64 a))
        (first | go_keep | (exact ⟨h0, h1⟩))
        (first | (go_at_call 88; refine (portageref01_number.calls k A c bs a _ _ _ _ (Kd.C_below H.out.row (H.out.below.drew)) H.out.room HK.out).mono ?_; rintro e w1 ⟨rfl, ⟨⟨mdr, rfl⟩⟩⟩))
      have H2 := Aside0.mk (H.out.drewN (1 + mdr))
      clear h0 h1 h2 f1 f2
      generalize w.drewN (1 + mdr) = W at H2 ⊢
      obtain ⟨h0, h1, h2, f1, f2⟩ := H2.out.look
      have hsum : ((a + n : Nat) : Int) = (a : Int) + (n : Int) := by push_cast; rfl
      have hrange := num_range bs a hb
      rw [← hr2] at hrange
      have hnn := hrange.2.2 rfl
      simp only at hnn
      clear hrange
      go_wp2
      go_ret
      rw [hsum]
      exact ⟨rfl, H2.out.set1 _⟩
    · rw [if_neg hno]
      have b2 : (no != 0) = true := by simpa using hno
      go_enter Try.func117, Try.ntmps117
      go_wp2_with fail
      go_region_held3 (fun w' => w'.cell? ⟨g, 0, none⟩ = some (.slice A bs.length c) ∧ w'.cell? ⟨g, 1, none⟩ = some (.int .i64 a))
        (first | go_keep | (exact ⟨h0, h1⟩))
        (first | (go_at_call 88; refine (portageref01_number.calls k A c bs a _ _ _ _ (Kd.C_below H.out.row (H.out.below.drew)) H.out.room HK.out).mono ?_; rintro e w1 ⟨rfl, ⟨⟨mdr, rfl⟩⟩⟩))
      have H2 := Aside0.mk (H.out.drewN (1 + mdr))
      clear h0 h1 h2 f1 f2
      generalize w.drewN (1 + mdr) = W at H2 ⊢
      obtain ⟨h0, h1, h2, f1, f2⟩ := H2.out.look
      go_wp2
      go_ret
      exact ⟨rfl, H2.out.set2 _⟩
  · rw [if_pos he]
    have b1 : (err != 0) = true := by simpa using he
    go_enter Try.func117, Try.ntmps117
    go_wp2
    go_ret
    exact ⟨rfl, H.out⟩
end Go.Proofs.Ytjeaojolhdfpeaa.RefReader
