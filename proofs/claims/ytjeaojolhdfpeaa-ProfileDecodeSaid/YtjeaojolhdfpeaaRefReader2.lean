/- The reference's Reader: Count, Int. -/
import Derived.Test.YtjeaojolhdfpeaaRefReader
namespace Go.Proofs.Ytjeaojolhdfpeaa.RefReader
open Go.RowKit Go.Proofs.YtjeaojolhdfpeaaW.PrintWords Go.Proofs.YtjeaojolhdfpeaaW.PrintLast Go.Proofs.YtjeaojolhdfpeaaW.PrintMore
open Go.Proofs.Ytjeaojolhdfpeaa.PProfileDecode Go.Proofs.Ytjeaojolhdfpeaa.Reader Go.Proofs.Ytjeaojolhdfpeaa.Methods Go.Proofs.Ytjeaojolhdfpeaa.NumRef
set_option linter.unusedVariables false
set_option linter.unusedSimpArgs false

theorem above_eq (x most : Int) (hx : 0 ≤ x ∧ x < 18446744073709551616) (hm : 0 ≤ most ∧ most ≤ 9223372036854775807) : portageref01_above.f x most = some (decide (x > most)) := by
  unfold portageref01_above.f
  rw [if_neg (by omega)]
  have : IntKind.u64.wrap most = most := by rw [IntKind.wrap_u64]; omega
  rw [this]
theorem unfolded_eq (x : Int) (hx : 0 ≤ x ∧ x < 18446744073709551616) : portageref01_Unfolded.f x = some (Nums3.unzig x) := by
  unfold portageref01_Unfolded.f Nums3.unzig
  have e1 : Int.tmod x 2 = x % 2 := Int.tmod_eq_emod_of_nonneg hx.1
  have e2 : Int.tdiv x 2 = x / 2 := Int.tdiv_eq_ediv_of_nonneg hx.1
  rw [e1, e2]
  have e3 : wrap64 (IntKind.u64.wrap (x / 2)) = x / 2 := by rw [IntKind.wrap_u64]; unfold wrap64; omega
  rw [e3]
  by_cases h : x % 2 = 0
  · rw [if_pos h, if_pos h]
  · rw [if_neg h, if_neg h]
    congr 1
    unfold wrap64
    omega

set_option maxHeartbeats 8000000 in
set_option maxRecDepth 100000 in
theorem int_ (g : Nat) (A : Option Addr) (c : Nat) (bs : List Int) (a : Nat) (err : Int) (w0 w0' w : World) (h : Rr w0 w0' w g A c bs a err) (hb : Bytes bs) (ha : a ≤ bs.length) (hl : bs.length ≤ 140737488355328) :
    Calls Try.prog 92 #[.pointer (some ⟨g, 0, none⟩)] w fun e w' => e = .returned (.int .i64 (Nums3.unzig (uintR bs a err).1)) ∧ Rr w0 w0' w' g A c bs (uintR bs a err).2.1 (uintR bs a err).2.2 := by
  have H := Aside0.mk (uint g A c bs a err w0 w0' w h hb ha hl)
  have hr : 0 ≤ (uintR bs a err).1 ∧ (uintR bs a err).1 < 18446744073709551616 := by
    have := num_range bs a hb
    unfold uintR rdNum
    repeat' split
    all_goals simp only
    all_goals omega
  have HU := Aside0.mk (unfolded_eq _ hr)
  clear h hr
  go_enter Try.func92, Try.ntmps92
  go_wp2_with (first | (go_at_call 117; refine H.out.mono ?_; rintro e w1 ⟨rfl, h1⟩; have H1 := Aside0.mk h1; clear h1) | (go_at_call 118; refine (portageref01_Unfolded.calls _ _ w1 HU.out).mono ?_; rintro e w2 ⟨rfl, ⟨⟨mdr, rfl⟩⟩⟩))
  go_ret
  exact ⟨rfl, H1.out.drewN _⟩

set_option maxHeartbeats 8000000 in
set_option maxRecDepth 100000 in
theorem count (g : Nat) (A : Option Addr) (c : Nat) (bs : List Int) (a : Nat) (most err : Int) (w0 w0' w : World) (h : Rr w0 w0' w g A c bs a err) (hb : Bytes bs) (ha : a ≤ bs.length) (hl : bs.length ≤ 140737488355328) (hm : 0 ≤ most ∧ most ≤ 9223372036854775807) :
    Calls Try.prog 55 #[.pointer (some ⟨g, 0, none⟩), .int .i64 most] w fun e w' => e = .returned (.int .i64 (countR bs a most err).1) ∧ Rr w0 w0' w' g A c bs (countR bs a most err).2.1 (countR bs a most err).2.2 := by
  have H := Aside0.mk h
  obtain ⟨h0, h1, h2, f1, f2⟩ := h.look
  clear h
  unfold countR rdNum cnt
  by_cases he : err = 0
  · subst he
    rw [if_neg (by simp)]
    obtain ⟨k, hk⟩ := number_num bs a hb ha hl
    have hrange := num_range bs a hb
    obtain ⟨⟨x, n, no⟩, hr⟩ : ∃ r, r = num bs a := ⟨_, rfl⟩
    rw [← hr] at hk hrange ⊢
    clear hr
    simp only [out] at hk hrange ⊢
    have HK := Aside0.mk hk
    have HA := Aside0.mk (above_eq x most ⟨hrange.1, hrange.2.1⟩ hm)
    clear hk
    by_cases hno : no = 0
    · subst hno
      have hnn := hrange.2.2 rfl
      simp only [if_true]
      have hsum : ((a + n : Nat) : Int) = (a : Int) + (n : Int) := by push_cast; rfl
      by_cases hx : x > most
      · rw [if_pos hx, if_neg (by simp)]
        simp only
        have hd : decide (x > most) = true := decide_eq_true hx
        rw [hd] at HA
        go_enter Try.func55, Try.ntmps55
        go_wp2_with fail
        go_region_held3 (fun w' => w'.cell? ⟨g, 0, none⟩ = some (.slice A bs.length c) ∧ w'.cell? ⟨g, 1, none⟩ = some (.int .i64 a))
          (first | go_keep | (exact ⟨h0, h1⟩))
          (first | (go_at_call 88; refine (portageref01_number.calls k A c bs a _ _ _ _ (Kd.C_below H.out.row (H.out.below.drew)) H.out.room HK.out).mono ?_; rintro e w1 ⟨rfl, ⟨⟨mdr, rfl⟩⟩⟩))
        have H2 := Aside0.mk (H.out.drewN (1 + mdr))
        clear h0 h1 h2 f1 f2
        generalize w.drewN (1 + mdr) = W at H2 ⊢
        obtain ⟨h0, h1, h2, f1, f2⟩ := H2.out.look
        go_wp2_with (go_at_call 89; refine (portageref01_above.calls _ _ _ _ HA.out).mono ?_; rintro e w2 ⟨rfl, ⟨⟨mdr2, rfl⟩⟩⟩)
        go_ret
        exact ⟨rfl, (H2.out.drewN _).set2 _⟩
      · rw [if_neg hx, if_pos rfl]
        simp only
        have hd : decide (x > most) = false := decide_eq_false hx
        rw [hd] at HA
        go_enter Try.func55, Try.ntmps55
        go_wp2_with fail
        go_region_held3 (fun w' => w'.cell? ⟨g, 0, none⟩ = some (.slice A bs.length c) ∧ w'.cell? ⟨g, 1, none⟩ = some (.int .i64 a))
          (first | go_keep | (exact ⟨h0, h1⟩))
          (first | (go_at_call 88; refine (portageref01_number.calls k A c bs a _ _ _ _ (Kd.C_below H.out.row (H.out.below.drew)) H.out.room HK.out).mono ?_; rintro e w1 ⟨rfl, ⟨⟨mdr, rfl⟩⟩⟩))
        have H2 := Aside0.mk (H.out.drewN (1 + mdr))
        clear h0 h1 h2 f1 f2
        generalize w.drewN (1 + mdr) = W at H2 ⊢
        obtain ⟨h0, h1, h2, f1, f2⟩ := H2.out.look
        have hbig : IntKind.i64.wrap x = x := by rw [IntKind.wrap_i64]; omega
        go_wp2_with (go_at_call 89; refine (portageref01_above.calls _ _ _ _ HA.out).mono ?_; rintro e w2 ⟨rfl, ⟨⟨mdr2, rfl⟩⟩⟩)
        go_ret
        rw [hsum]
        exact ⟨rfl, (H2.out.drewN _).set1 _⟩
    · have b2 : (no != 0) = true := by simpa using hno
      rw [if_neg hno, if_neg hno]
      go_enter Try.func55, Try.ntmps55
      go_wp2_with fail
      go_region_held3 (fun w' => w'.cell? ⟨g, 0, none⟩ = some (.slice A bs.length c) ∧ w'.cell? ⟨g, 1, none⟩ = some (.int .i64 a))
        (first | go_keep | (exact ⟨h0, h1⟩))
        (first | (go_at_call 88; refine (portageref01_number.calls k A c bs a _ _ _ _ (Kd.C_below H.out.row (H.out.below.drew)) H.out.room HK.out).mono ?_; rintro e w1 ⟨rfl, ⟨⟨mdr, rfl⟩⟩⟩))
      have H2 := Aside0.mk (H.out.drewN (1 + mdr))
      clear h0 h1 h2 f1 f2
      generalize w.drewN (1 + mdr) = W at H2 ⊢
      obtain ⟨h0, h1, h2, f1, f2⟩ := H2.out.look
      go_wp2
      go_ret
      exact ⟨rfl, H2.out.set2 _⟩
  · rw [if_pos he]
    have b1 : (err != 0) = true := by simpa using he
    go_enter Try.func55, Try.ntmps55
    go_wp2
    go_ret
    exact ⟨rfl, H.out⟩
end Go.Proofs.Ytjeaojolhdfpeaa.RefReader
