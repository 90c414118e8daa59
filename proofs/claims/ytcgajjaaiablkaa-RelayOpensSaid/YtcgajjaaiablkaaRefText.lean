/- The reference's Reader: Text. -/
import Derived.Test.YtcgajjaaiablkaaRefRd
import Derived.Test.YtcgajjaaiablkaaRText
namespace Go.Proofs.Ytcgajjaaiablkaa.RefText
open Go.RowKit Go.Proofs.YtcgajjaaiablkaaW.PrintWords Go.Proofs.YtcgajjaaiablkaaW.PrintLast Go.Proofs.YtcgajjaaiablkaaW.PrintMore
open Go.Proofs.Ytcgajjaaiablkaa.PRelaySealed Go.Proofs.Ytcgajjaaiablkaa.Reader Go.Proofs.Ytcgajjaaiablkaa.RCount Go.Proofs.Ytcgajjaaiablkaa.RRaw Go.Proofs.Ytcgajjaaiablkaa.NumRef Go.Proofs.Ytcgajjaaiablkaa.RefRd Go.Proofs.Ytcgajjaaiablkaa.RText
set_option linter.unusedVariables false
set_option linter.unusedSimpArgs false
set_option maxHeartbeats 8000000 in
set_option maxRecDepth 100000 in
theorem text_ (g : Nat) (A : Option Addr) (c : Nat) (bs : List Int) (a : Nat) (most err : Int) (w0 w0' w : World) (h : Rr w0 w0' w g A c bs a err) (hb : Bytes bs) (ha : a ≤ bs.length) (hl : bs.length ≤ 140737488355328) (hm : 0 ≤ most ∧ most ≤ 9223372036854775807) :
    Calls Try.prog 62 #[.pointer (some ⟨g, 0, none⟩), .int .i64 most] w fun e w' => e = .returned (.string (strOfNums (textR bs a most err).1)) ∧ Rr w0 w0' w' g A c bs (textR bs a most err).2.1 (textR bs a most err).2.2 := by
  have H := Aside0.mk h
  obtain ⟨h0, h1, h2, f1, f2⟩ := h.look
  clear h
  unfold textR txt cnt
  by_cases he : err = 0
  · subst he
    rw [if_neg (by simp)]
    obtain ⟨k, hk⟩ := number_num bs a hb ha hl
    have hrange := num_range bs a hb
    obtain ⟨⟨x, n, no⟩, hr⟩ : ∃ r, r = num bs a := ⟨_, rfl⟩
    rw [← hr] at hk hrange ⊢
    clear hr
    simp only [out] at hk hrange ⊢
    have HK := Aside0.mk hk
    have HA := Aside0.mk (above_eq x most ⟨hrange.1, hrange.2.1⟩ hm)
    clear hk
    by_cases hno : no = 0
    · subst hno
      have hnn := hrange.2.2 rfl
      simp only [if_true]
      have hsum : ((a + n : Nat) : Int) = (a : Int) + (n : Int) := by push_cast; rfl
      by_cases hx : x > most
      · rw [if_pos hx, if_neg (by simp)]
        simp only
        have hd : decide (x > most) = true := decide_eq_true hx
        rw [hd] at HA
        go_enter Try.func62, Try.ntmps62
        go_wp2_with fail
        go_region_held3 (fun w' => w'.cell? ⟨g, 0, none⟩ = some (.slice A bs.length c) ∧ w'.cell? ⟨g, 1, none⟩ = some (.int .i64 a))
          (first | go_keep | (exact ⟨h0, h1⟩))
          (first | (go_at_call 88; refine (portageref01_number.calls k A c bs a _ _ _ _ (Kd.C_below H.out.row (H.out.below.drew)) H.out.room HK.out).mono ?_; rintro e w1 ⟨rfl, ⟨⟨mdr, rfl⟩⟩⟩))
        have H2 := Aside0.mk (H.out.drewN (1 + mdr))
        clear h0 h1 h2 f1 f2
        generalize w.drewN (1 + mdr) = W at H2 ⊢
        obtain ⟨h0, h1, h2, f1, f2⟩ := H2.out.look
        go_wp2_with (go_at_call 89; refine (portageref01_above.calls _ _ _ _ HA.out).mono ?_; rintro e w2 ⟨rfl, ⟨⟨mdr2, rfl⟩⟩⟩)
        go_ret
        exact ⟨rfl, (H2.out.drewN _).set2 _⟩
      · rw [if_neg hx, if_pos rfl]
        simp only
        have hd : decide (x > most) = false := decide_eq_false hx
        rw [hd] at HA
        have hbig : IntKind.i64.wrap x = x := by rw [IntKind.wrap_i64]; omega
        obtain ⟨m, hm1⟩ : ∃ m : Nat, x = m := ⟨x.toNat, by omega⟩
        subst hm1
        rw [Int.toNat_natCast]
        obtain ⟨p, hp⟩ : ∃ p, a + n = p := ⟨_, rfl⟩
        have hw1 : IntKind.i64.wrap ((a : Int) + (n : Int)) = (p : Int) := by rw [IntKind.wrap_i64]; omega
        rw [hp] at hnn ⊢
        have hw2 : IntKind.u64.wrap (IntKind.i64.wrap ((bs.length : Int) - (p : Int))) = (bs.length : Int) - (p : Int) := by rw [IntKind.wrap_i64, IntKind.wrap_u64]; omega
        by_cases hfit : p + m ≤ bs.length
        · rw [if_pos hfit]
          have p2 : decide ((bs.length : Int) - (p : Int) < (m : Int)) = false := by simp; omega
          have hroom := H.out.room
          obtain ⟨i5, hi5, _, hs5, _⟩ := info_parts info5_
          have hcut := cut_mid (P := Try.prog) 33 5 .i64 .i64 Try.underlying33 hi5 1 hs5 A bs.length c (p : Int) ((p : Int) + (m : Int)) (by omega) (by omega) (by omega) hroom
          have hC := fun (W : World) (hB : Below w0.heap.size w0 W) => Kd.C_mid (k := Kd.int .u8) (lo := p) (hi := p + m) (c := c) (Kd.C_below H.out.row hB) (by omega) hfit hroom
          have hd2 : (bs.take (p + m)).drop p = (bs.drop p).take m := by rw [List.drop_take]; congr 1; omega
          have hl2 : ((bs.drop p).take m).length = m := by rw [List.length_take, List.length_drop]; omega
          rw [hd2, hl2] at hC
          clear hd2 hl2
          have hw3 : IntKind.i64.wrap ((p : Int) + (m : Int)) = (p : Int) + (m : Int) := by rw [IntKind.wrap_i64]; omega
          by_cases hca : c = p
          · simp only [if_pos hca] at hC
            rw [if_pos (by simpa using hca)] at hcut
            have HC := Aside0.mk hC
            clear hC hca
            go_enter Try.func62, Try.ntmps62
            go_wp2_with fail
            go_region_held3 (fun w' => w'.cell? ⟨g, 0, none⟩ = some (.slice A bs.length c) ∧ w'.cell? ⟨g, 1, none⟩ = some (.int .i64 a))
              (first | go_keep | (exact ⟨h0, h1⟩))
              (first | (go_at_call 88; refine (portageref01_number.calls k A c bs a _ _ _ _ (Kd.C_below H.out.row (H.out.below.drew)) H.out.room HK.out).mono ?_; rintro e w1 ⟨rfl, ⟨⟨mdr, rfl⟩⟩⟩))
            have H2 := Aside0.mk (H.out.drewN (1 + mdr))
            clear h0 h1 h2 f1 f2
            generalize w.drewN (1 + mdr) = W at H2 ⊢
            obtain ⟨h0, h1, h2, f1, f2⟩ := H2.out.look
            go_wp2_with (go_at_call 89; refine (portageref01_above.calls _ _ _ _ HA.out).mono ?_; rintro e w2 ⟨rfl, ⟨⟨mdr2, rfl⟩⟩⟩; have hstr := Kd.C_string (P := Try.prog) (src := 33) (dst := 9) (c := c - p) Try.underlying33 Try.underlying5 Try.underlying9 (HC.out _ (pw_below_drewN H2.out.below mdr2)))
            go_ret
            exact ⟨rfl, (H2.out.drewN _).set1 _⟩
          · simp only [if_neg hca, show p * (Kd.int .u8).sz = p from Nat.mul_one p] at hC
            rw [if_neg (by simpa using hca)] at hcut
            have HC := Aside0.mk hC
            clear hC hca
            go_enter Try.func62, Try.ntmps62
            go_wp2_with fail
            go_region_held3 (fun w' => w'.cell? ⟨g, 0, none⟩ = some (.slice A bs.length c) ∧ w'.cell? ⟨g, 1, none⟩ = some (.int .i64 a))
              (first | go_keep | (exact ⟨h0, h1⟩))
              (first | (go_at_call 88; refine (portageref01_number.calls k A c bs a _ _ _ _ (Kd.C_below H.out.row (H.out.below.drew)) H.out.room HK.out).mono ?_; rintro e w1 ⟨rfl, ⟨⟨mdr, rfl⟩⟩⟩))
            have H2 := Aside0.mk (H.out.drewN (1 + mdr))
            clear h0 h1 h2 f1 f2
            generalize w.drewN (1 + mdr) = W at H2 ⊢
            obtain ⟨h0, h1, h2, f1, f2⟩ := H2.out.look
            go_wp2_with (go_at_call 89; refine (portageref01_above.calls _ _ _ _ HA.out).mono ?_; rintro e w2 ⟨rfl, ⟨⟨mdr2, rfl⟩⟩⟩; have hstr := Kd.C_string (P := Try.prog) (src := 33) (dst := 9) (c := c - p) Try.underlying33 Try.underlying5 Try.underlying9 (HC.out _ (pw_below_drewN H2.out.below mdr2)))
            go_ret
            exact ⟨rfl, (H2.out.drewN _).set1 _⟩
        · rw [if_neg hfit]
          have p2 : decide ((bs.length : Int) - (p : Int) < (m : Int)) = true := by simp; omega
          go_enter Try.func62, Try.ntmps62
          go_wp2_with fail
          go_region_held3 (fun w' => w'.cell? ⟨g, 0, none⟩ = some (.slice A bs.length c) ∧ w'.cell? ⟨g, 1, none⟩ = some (.int .i64 a))
            (first | go_keep | (exact ⟨h0, h1⟩))
            (first | (go_at_call 88; refine (portageref01_number.calls k A c bs a _ _ _ _ (Kd.C_below H.out.row (H.out.below.drew)) H.out.room HK.out).mono ?_; rintro e w1 ⟨rfl, ⟨⟨mdr, rfl⟩⟩⟩))
          have H2 := Aside0.mk (H.out.drewN (1 + mdr))
          clear h0 h1 h2 f1 f2
          generalize w.drewN (1 + mdr) = W at H2 ⊢
          obtain ⟨h0, h1, h2, f1, f2⟩ := H2.out.look
          go_wp2_with (go_at_call 89; refine (portageref01_above.calls _ _ _ _ HA.out).mono ?_; rintro e w2 ⟨rfl, ⟨⟨mdr2, rfl⟩⟩⟩)
          go_ret
          exact ⟨rfl, (H2.out.drewN _).set2 _⟩
    · have b2 : (no != 0) = true := by simpa using hno
      rw [if_neg hno, if_neg hno]
      go_enter Try.func62, Try.ntmps62
      go_wp2_with fail
      go_region_held3 (fun w' => w'.cell? ⟨g, 0, none⟩ = some (.slice A bs.length c) ∧ w'.cell? ⟨g, 1, none⟩ = some (.int .i64 a))
        (first | go_keep | (exact ⟨h0, h1⟩))
        (first | (go_at_call 88; refine (portageref01_number.calls k A c bs a _ _ _ _ (Kd.C_below H.out.row (H.out.below.drew)) H.out.room HK.out).mono ?_; rintro e w1 ⟨rfl, ⟨⟨mdr, rfl⟩⟩⟩))
      have H2 := Aside0.mk (H.out.drewN (1 + mdr))
      clear h0 h1 h2 f1 f2
      generalize w.drewN (1 + mdr) = W at H2 ⊢
      obtain ⟨h0, h1, h2, f1, f2⟩ := H2.out.look
      go_wp2
      go_ret
      exact ⟨rfl, H2.out.set2 _⟩
  · rw [if_pos he]
    have b1 : (err != 0) = true := by simpa using he
    go_enter Try.func62, Try.ntmps62
    go_wp2
    go_ret
    exact ⟨rfl, H.out⟩
end Go.Proofs.Ytcgajjaaiablkaa.RefText
