/- The reference's Reader (the room behind its bytes told): Read, Count, End. -/
import Derived.Test.YtcgajjaaiablkaaNumRef2
import Derived.Test.YtcgajjaaiablkaaRCount
import Derived.Test.YtcgajjaaiablkaaRRaw
import Derived.Deep.RegionHeld3
namespace Go.Proofs.Ytcgajjaaiablkaa.RefRd
open Go.RowKit Go.Proofs.YtcgajjaaiablkaaW.PrintWords Go.Proofs.YtcgajjaaiablkaaW.PrintLast Go.Proofs.YtcgajjaaiablkaaW.PrintMore
open Go.Proofs.Ytcgajjaaiablkaa.PRelaySealed Go.Proofs.Ytcgajjaaiablkaa.Reader Go.Proofs.Ytcgajjaaiablkaa.RCount Go.Proofs.Ytcgajjaaiablkaa.NumRef
set_option linter.unusedVariables false
set_option linter.unusedSimpArgs false

/-- A reader at block g over the row A, c of the world w0, moved since w. -/
structure Rr (w0 w w' : World) (g : Nat) (A : Option Addr) (c : Nat) (bs : List Int) (a e : Int) : Prop where
  blk : w'.heap[g]? = some (.cells #[.slice A bs.length c, .int .i64 a, .int .i64 e] 94 (0, 0))
  ge : w0.heap.size ≤ g
  row : Kd.C (Kd.int .u8) w0 A bs.length bs
  room : bs.length ≤ c
  below : Below w0.heap.size w0 w'
  keep : KeepBut w w' g none
namespace Rr
variable {w0 w w1 w2 : World} {g c : Nat} {A : Option Addr} {bs : List Int} {a e a' e' : Int}
theorem drewN (h : Rr w0 w w1 g A c bs a e) (n : Nat) : Rr w0 w (w1.drewN n) g A c bs a e := ⟨h.blk, h.ge, h.row, h.room, pw_below_drewN h.below n, keep_drewN h.keep n⟩
theorem drew (h : Rr w0 w w1 g A c bs a e) : Rr w0 w w1.drew g A c bs a e := ⟨h.blk, h.ge, h.row, h.room, below_drew h.below, keep_drew h.keep⟩
theorem alloc (h : Rr w0 w w1 g A c bs a e) (o : Obj) : Rr w0 w (w1.alloc o) g A c bs a e := ⟨blk_alloc h.blk o, h.ge, h.row, h.room, below_alloc h.below o, keep_alloc h.keep o⟩
theorem set1 (h : Rr w0 w w1 g A c bs a e) (x : Int) : Rr w0 w (w1.setCell ⟨g, 1, none⟩ (.int .i64 x)) g A c bs x e := ⟨by simpa using blk_set h.blk 1 (.int .i64 x), h.ge, h.row, h.room, below_set h.below h.ge, h.keep.set_ 1 _⟩
theorem set2 (h : Rr w0 w w1 g A c bs a e) (x : Int) : Rr w0 w (w1.setCell ⟨g, 2, none⟩ (.int .i64 x)) g A c bs a x := ⟨by simpa using blk_set h.blk 2 (.int .i64 x), h.ge, h.row, h.room, below_set h.below h.ge, h.keep.set_ 2 _⟩
theorem look (h : Rr w0 w w1 g A c bs a e) : w1.cell? ⟨g, 0, none⟩ = some (.slice A bs.length c) ∧ w1.cell? ⟨g, 1, none⟩ = some (.int .i64 a) ∧ w1.cell? ⟨g, 2, none⟩ = some (.int .i64 e) ∧ w1.frozen? ⟨g, 1, none⟩ = false ∧ w1.frozen? ⟨g, 2, none⟩ = false :=
  ⟨(blk_cell h.blk 0).trans rfl, (blk_cell h.blk 1).trans rfl, (blk_cell h.blk 2).trans rfl, blk_frozen h.blk 1, blk_frozen h.blk 2⟩
theorem next (h : Rr w0 w w1 g A c bs a e) (hb : Below w1.heap.size w1 w2) : Rr w0 w w2 g A c bs a e := ⟨blk_below h.blk hb, h.ge, h.row, h.room, below_then h.below h.below.size hb, h.keep.trans (KeepBut.of_below hb g none) (.inl rfl)⟩
theorem max (h : Rr w0 w w1 g A c bs a e) : bs.length ≤ 9223372036854775807 := Kd.C_max h.row
end Rr

theorem above_eq (x most : Int) (hx : 0 ≤ x ∧ x < 18446744073709551616) (hm : 0 ≤ most ∧ most ≤ 9223372036854775807) : portageref01_above.f x most = some (decide (x > most)) := by
  unfold portageref01_above.f
  rw [if_neg (by omega)]
  have : IntKind.u64.wrap most = most := by rw [IntKind.wrap_u64]; omega
  rw [this]
set_option maxHeartbeats 8000000 in
set_option maxRecDepth 100000 in
theorem count (g : Nat) (A : Option Addr) (c : Nat) (bs : List Int) (a : Nat) (most err : Int) (w0 w0' w : World) (h : Rr w0 w0' w g A c bs a err) (hb : Bytes bs) (ha : a ≤ bs.length) (hl : bs.length ≤ 140737488355328) (hm : 0 ≤ most ∧ most ≤ 9223372036854775807) :
    Calls Try.prog 60 #[.pointer (some ⟨g, 0, none⟩), .int .i64 most] w fun e w' => e = .returned (.int .i64 (countR bs a most err).1) ∧ Rr w0 w0' w' g A c bs (countR bs a most err).2.1 (countR bs a most err).2.2 := by
  have H := Aside0.mk h
  obtain ⟨h0, h1, h2, f1, f2⟩ := h.look
  clear h
  unfold countR rdNum cnt
  by_cases he : err = 0
  · subst he
    rw [if_neg (by simp)]
    obtain ⟨k, hk⟩ := number_num bs a hb ha hl
    have hrange := num_range bs a hb
    obtain ⟨⟨x, n, no⟩, hr⟩ : ∃ r, r = num bs a := ⟨_, rfl⟩
    rw [← hr] at hk hrange ⊢
    clear hr
    simp only [out] at hk hrange ⊢
    have HK := Aside0.mk hk
    have HA := Aside0.mk (above_eq x most ⟨hrange.1, hrange.2.1⟩ hm)
    clear hk
    by_cases hno : no = 0
    · subst hno
      have hnn := hrange.2.2 rfl
      simp only [if_true]
      have hsum : ((a + n : Nat) : Int) = (a : Int) + (n : Int) := by push_cast; rfl
      by_cases hx : x > most
      · rw [if_pos hx, if_neg (by simp)]
        simp only
        have hd : decide (x > most) = true := decide_eq_true hx
        rw [hd] at HA
        go_enter Try.func60, Try.ntmps60
        go_wp2_with fail
        go_region_held3 (fun w' => w'.cell? ⟨g, 0, none⟩ = some (.slice A bs.length c) ∧ w'.cell? ⟨g, 1, none⟩ = some (.int .i64 a))
          (first | go_keep | (exact ⟨h0, h1⟩))
          (first | (go_at_call 88; refine (portageref01_number.calls k A c bs a _ _ _ _ (Kd.C_below H.out.row (H.out.below.drew)) H.out.room HK.out).mono ?_; rintro e w1 ⟨rfl, ⟨⟨mdr, rfl⟩⟩⟩))
        have H2 := Aside0.mk (H.out.drewN (1 + mdr))
        clear h0 h1 h2 f1 f2
        generalize w.drewN (1 + mdr) = W at H2 ⊢
        obtain ⟨h0, h1, h2, f1, f2⟩ := H2.out.look
        go_wp2_with (go_at_call 89; refine (portageref01_above.calls _ _ _ _ HA.out).mono ?_; rintro e w2 ⟨rfl, ⟨⟨mdr2, rfl⟩⟩⟩)
        go_ret
        exact ⟨rfl, (H2.out.drewN _).set2 _⟩
      · rw [if_neg hx, if_pos rfl]
        simp only
        have hd : decide (x > most) = false := decide_eq_false hx
        rw [hd] at HA
        go_enter Try.func60, Try.ntmps60
        go_wp2_with fail
        go_region_held3 (fun w' => w'.cell? ⟨g, 0, none⟩ = some (.slice A bs.length c) ∧ w'.cell? ⟨g, 1, none⟩ = some (.int .i64 a))
          (first | go_keep | (exact ⟨h0, h1⟩))
          (first | (go_at_call 88; refine (portageref01_number.calls k A c bs a _ _ _ _ (Kd.C_below H.out.row (H.out.below.drew)) H.out.room HK.out).mono ?_; rintro e w1 ⟨rfl, ⟨⟨mdr, rfl⟩⟩⟩))
        have H2 := Aside0.mk (H.out.drewN (1 + mdr))
        clear h0 h1 h2 f1 f2
        generalize w.drewN (1 + mdr) = W at H2 ⊢
        obtain ⟨h0, h1, h2, f1, f2⟩ := H2.out.look
        have hbig : IntKind.i64.wrap x = x := by rw [IntKind.wrap_i64]; omega
        go_wp2_with (go_at_call 89; refine (portageref01_above.calls _ _ _ _ HA.out).mono ?_; rintro e w2 ⟨rfl, ⟨⟨mdr2, rfl⟩⟩⟩)
        go_ret
        rw [hsum]
        exact ⟨rfl, (H2.out.drewN _).set1 _⟩
    · have b2 : (no != 0) = true := by simpa using hno
      rw [if_neg hno, if_neg hno]
      go_enter Try.func60, Try.ntmps60
      go_wp2_with fail
      go_region_held3 (fun w' => w'.cell? ⟨g, 0, none⟩ = some (.slice A bs.length c) ∧ w'.cell? ⟨g, 1, none⟩ = some (.int .i64 a))
        (first | go_keep | (exact ⟨h0, h1⟩))
        (first | (go_at_call 88; refine (portageref01_number.calls k A c bs a _ _ _ _ (Kd.C_below H.out.row (H.out.below.drew)) H.out.room HK.out).mono ?_; rintro e w1 ⟨rfl, ⟨⟨mdr, rfl⟩⟩⟩))
      have H2 := Aside0.mk (H.out.drewN (1 + mdr))
      clear h0 h1 h2 f1 f2
      generalize w.drewN (1 + mdr) = W at H2 ⊢
      obtain ⟨h0, h1, h2, f1, f2⟩ := H2.out.look
      go_wp2
      go_ret
      exact ⟨rfl, H2.out.set2 _⟩
  · rw [if_pos he]
    have b1 : (err != 0) = true := by simpa using he
    go_enter Try.func60, Try.ntmps60
    go_wp2
    go_ret
    exact ⟨rfl, H.out⟩

def r63_1_T : Bool × List (List Nat × List Nat) := (true, [([], []), ([0], [0]), ([1], [1]), ([2], [2]), ([3], [3]), ([4], [4]), ([5], [5]), ([6, 5], [5, 6]), ([7, 5], [5, 7]), ([8, 5], [5, 8]), ([5], [5]), ([10, 5], [5, 10]), ([11, 5], [5, 11]), ([12, 5], [5, 12]), ([13, 5], [5, 13]), ([9, 14, 5], [5, 9, 14]), ([5, 15], [5, 15])])
def r63_1_B : List Nat := [0, 1, 3, 7, 15, 31, 63, 127, 255, 511, 63, 1087, 3135, 7231, 15423, 32767, 65535]
theorem r63_1_tab : rtab .any (opsOf Try.f63 1) = r63_1_T := by kernel_rfl
theorem r63_1_bits : waitsOk r63_1_T.2 r63_1_B = true := by kernel_rfl
/-- What End answers. -/
def endR (bs : List Int) (a : Nat) (err : Int) : Int := if err = 0 ∧ a < bs.length then 3 else err
set_option maxHeartbeats 8000000 in
set_option maxRecDepth 100000 in
theorem end_ (g : Nat) (A : Option Addr) (c : Nat) (bs : List Int) (a : Nat) (err : Int) (w0 w0' w : World) (h : Rr w0 w0' w g A c bs a err) :
    Calls Try.prog 63 #[.pointer (some ⟨g, 0, none⟩)] w fun e w' => e = .returned (.int .i64 (endR bs a err)) ∧ Rr w0 w0' w' g A c bs a err := by
  have H := Aside0.mk h
  obtain ⟨h0, h1, h2, f1, f2⟩ := h.look
  clear h
  unfold endR
  by_cases he : err = 0
  · subst he
    by_cases ha : a < bs.length
    · rw [if_pos ⟨rfl, ha⟩]
      have b1 : decide ((a : Int) < (bs.length : Int)) = true := by simp; omega
      go_enter Try.func63, Try.ntmps63
      go_wp2_with fail
      go_region_held3 (fun w' => w'.cell? ⟨g, 0, none⟩ = some (.slice A bs.length c) ∧ w'.cell? ⟨g, 1, none⟩ = some (.int .i64 a) ∧ w'.cell? ⟨g, 2, none⟩ = some (.int .i64 0))
        (first | go_keep | (exact ⟨h0, h1, h2⟩)) (fail)
      go_wp2
      go_ret
      exact ⟨rfl, H.out.drewN _⟩
    · rw [if_neg (fun h => ha h.2)]
      have b1 : decide ((a : Int) < (bs.length : Int)) = false := by simp; omega
      go_enter Try.func63, Try.ntmps63
      go_wp2_with fail
      go_region_held3 (fun w' => w'.cell? ⟨g, 0, none⟩ = some (.slice A bs.length c) ∧ w'.cell? ⟨g, 1, none⟩ = some (.int .i64 a) ∧ w'.cell? ⟨g, 2, none⟩ = some (.int .i64 0))
        (first | go_keep | (exact ⟨h0, h1, h2⟩)) (fail)
      go_wp2
      go_ret
      exact ⟨rfl, H.out.drewN _⟩
  · rw [if_neg (fun h => he h.1)]
    have b1 : (err == 0) = false := by simpa using he
    have H2 := Aside0.mk H.out.drew
    have Z2 := Aside0.mk h2
    go_enter Try.func63, Try.ntmps63
    go_wp2_with fail
    refine start_ (n := 17) (S := fun w' => w'.cell? ⟨g, 2, none⟩ = some (.int .i64 err)) (ds := []) #[false, false, false, false, false, false, false, false, false, false, false, false, false, false, false, false, false] (by kernel_rfl) rfl rfl Z2.out (fun hHeld => ?_)
    refine with_tabW r63_1_tab r63_1_bits (fun HT_ HW_ => ?_)
    generalize World.drew w = W2 at H2 hHeld ⊢
    refine pure_ (i := 0) (N := some 3) (v := ?_) (a' := ?_) #[true, false, false, false, false, false, false, false, false, false, false, false, false, false, false, false, false] rfl rfl (any_of HT_.out (by kernel_rfl)) (fun _ _ _ h => h) (Or.inl ⟨by rfl, ?_⟩) ?_ ?_
    rotate_left
    · intro w'
      go_simp
      with_reducible rfl
    rotate_left
    · simp only [Act.put, List.setIfInBounds_toArray, List.set_cons_zero, List.set_cons_succ, i64_w, i32_w]
      rfl
    refine pure_ (i := 1) (N := some 4) (v := ?_) (a' := ?_) #[true, true, false, false, false, false, false, false, false, false, false, false, false, false, false, false, false] rfl rfl (any_of HT_.out (by kernel_rfl)) (fun _ _ _ h => h) (Or.inl ⟨by rfl, ?_⟩) ?_ ?_
    rotate_left
    · intro w'
      go_simp
      with_reducible rfl
    rotate_left
    · simp only [Act.put, List.setIfInBounds_toArray, List.set_cons_zero, List.set_cons_succ, i64_w, i32_w]
      rfl
    refine pure_ (i := 2) (N := some 5) (v := ?_) (a' := ?_) #[true, true, true, false, false, false, false, false, false, false, false, false, false, false, false, false, false] rfl rfl (any_of HT_.out (by kernel_rfl)) (fun _ _ _ h => h) (Or.inl ⟨by rfl, ?_⟩) ?_ ?_
    rotate_left
    · intro w'
      go_simp
      with_reducible rfl
    rotate_left
    · simp only [Act.put, List.setIfInBounds_toArray, List.set_cons_zero, List.set_cons_succ, i64_w, i32_w]
      rfl
    refine take_ (i := 3) (N := some 6) (v := ?_) (a' := ?_) #[true, true, true, true, false, false, false, false, false, false, false, false, false, false, false, false, false] rfl rfl (take_ofW HT_.out HW_.out (by kernel_rfl)) (fun _ _ _ h => h) (Or.inl ⟨by rfl, ?_⟩) hHeld ?_ ?_
    rotate_left
    · rintro w' s0
      go_simp
      with_reducible rfl
    rotate_left
    · simp only [Act.put, List.setIfInBounds_toArray, List.set_cons_zero, List.set_cons_succ, i64_w, i32_w]
      rfl
    refine pure_ (i := 4) (N := some 7) (v := ?_) (a' := ?_) #[true, true, true, true, true, false, false, false, false, false, false, false, false, false, false, false, false] rfl rfl (any_of HT_.out (by kernel_rfl)) (fun _ _ _ h => h) (Or.inl ⟨by rfl, ?_⟩) ?_ ?_
    rotate_left
    · intro w'
      go_simp
      with_reducible rfl
    rotate_left
    · simp only [Act.put, List.setIfInBounds_toArray, List.set_cons_zero, List.set_cons_succ, i64_w, i32_w]
      rfl
    refine pure_ (i := 5) (N := some 8) (v := ?_) (a' := ?_) #[true, true, true, true, true, true, false, false, false, false, false, false, false, false, false, false, false] rfl rfl (any_of HT_.out (by kernel_rfl)) (fun _ _ _ h => h) (Or.inl ⟨by rfl, ?_⟩) ?_ ?_
    rotate_left
    · intro w'
      go_simp
      with_reducible rfl
    rotate_left
    · simp only [Act.put, List.setIfInBounds_toArray, List.set_cons_zero, List.set_cons_succ, i64_w, i32_w]
      rfl
    refine pure_ (i := 6) (N := some 9) (v := undef) (a' := ?_) #[true, true, true, true, true, true, true, false, false, false, false, false, false, false, false, false, false] rfl rfl (any_of HT_.out (by kernel_rfl)) (fun _ _ _ h => h) (Or.inr ⟨by rfl, rfl⟩) ?_ ?_
    rotate_left
    · simp only [Act.put, List.setIfInBounds_toArray, List.set_cons_zero, List.set_cons_succ, i64_w, i32_w]
      rfl
    refine pure_ (i := 7) (N := some 10) (v := undef) (a' := ?_) #[true, true, true, true, true, true, true, true, false, false, false, false, false, false, false, false, false] rfl rfl (any_of HT_.out (by kernel_rfl)) (fun _ _ _ h => h) (Or.inr ⟨by rfl, rfl⟩) ?_ ?_
    rotate_left
    · simp only [Act.put, List.setIfInBounds_toArray, List.set_cons_zero, List.set_cons_succ, i64_w, i32_w]
      rfl
    refine pure_ (i := 8) (N := some 11) (v := undef) (a' := ?_) #[true, true, true, true, true, true, true, true, true, false, false, false, false, false, false, false, false] rfl rfl (any_of HT_.out (by kernel_rfl)) (fun _ _ _ h => h) (Or.inr ⟨by rfl, rfl⟩) ?_ ?_
    rotate_left
    · simp only [Act.put, List.setIfInBounds_toArray, List.set_cons_zero, List.set_cons_succ, i64_w, i32_w]
      rfl
    refine pure_ (i := 9) (N := some 12) (v := undef) (a' := ?_) #[true, true, true, true, true, true, true, true, true, true, false, false, false, false, false, false, false] rfl rfl (any_of HT_.out (by kernel_rfl)) (fun _ _ _ h => h) (Or.inr ⟨by rfl, rfl⟩) ?_ ?_
    rotate_left
    · simp only [Act.put, List.setIfInBounds_toArray, List.set_cons_zero, List.set_cons_succ, i64_w, i32_w]
      rfl
    refine pure_ (i := 10) (N := some 13) (v := undef) (a' := ?_) #[true, true, true, true, true, true, true, true, true, true, true, false, false, false, false, false, false] rfl rfl (any_of HT_.out (by kernel_rfl)) (fun _ _ _ h => h) (Or.inr ⟨by rfl, rfl⟩) ?_ ?_
    rotate_left
    · simp only [Act.put, List.setIfInBounds_toArray, List.set_cons_zero, List.set_cons_succ, i64_w, i32_w]
      rfl
    refine pure_ (i := 11) (N := some 14) (v := undef) (a' := ?_) #[true, true, true, true, true, true, true, true, true, true, true, true, false, false, false, false, false] rfl rfl (any_of HT_.out (by kernel_rfl)) (fun _ _ _ h => h) (Or.inr ⟨by rfl, rfl⟩) ?_ ?_
    rotate_left
    · simp only [Act.put, List.setIfInBounds_toArray, List.set_cons_zero, List.set_cons_succ, i64_w, i32_w]
      rfl
    refine pure_ (i := 12) (N := some 15) (v := undef) (a' := ?_) #[true, true, true, true, true, true, true, true, true, true, true, true, true, false, false, false, false] rfl rfl (any_of HT_.out (by kernel_rfl)) (fun _ _ _ h => h) (Or.inr ⟨by rfl, rfl⟩) ?_ ?_
    rotate_left
    · simp only [Act.put, List.setIfInBounds_toArray, List.set_cons_zero, List.set_cons_succ, i64_w, i32_w]
      rfl
    refine pure_ (i := 13) (N := some 16) (v := undef) (a' := ?_) #[true, true, true, true, true, true, true, true, true, true, true, true, true, true, false, false, false] rfl rfl (any_of HT_.out (by kernel_rfl)) (fun _ _ _ h => h) (Or.inr ⟨by rfl, rfl⟩) ?_ ?_
    rotate_left
    · simp only [Act.put, List.setIfInBounds_toArray, List.set_cons_zero, List.set_cons_succ, i64_w, i32_w]
      rfl
    refine pure_ (i := 14) (N := some 17) (v := undef) (a' := ?_) #[true, true, true, true, true, true, true, true, true, true, true, true, true, true, true, false, false] rfl rfl (any_of HT_.out (by kernel_rfl)) (fun _ _ _ h => h) (Or.inr ⟨by rfl, rfl⟩) ?_ ?_
    rotate_left
    · simp only [Act.put, List.setIfInBounds_toArray, List.set_cons_zero, List.set_cons_succ, i64_w, i32_w]
      rfl
    refine pure_ (i := 15) (N := some 18) (v := undef) (a' := ?_) #[true, true, true, true, true, true, true, true, true, true, true, true, true, true, true, true, false] rfl rfl (any_of HT_.out (by kernel_rfl)) (fun _ _ _ h => h) (Or.inr ⟨by rfl, rfl⟩) ?_ ?_
    rotate_left
    · simp only [Act.put, List.setIfInBounds_toArray, List.set_cons_zero, List.set_cons_succ, i64_w, i32_w]
      rfl
    refine pure_ (i := 16) (N := some 19) (v := ?_) (a' := ?_) #[true, true, true, true, true, true, true, true, true, true, true, true, true, true, true, true, true] rfl rfl (any_of HT_.out (by kernel_rfl)) (fun _ _ _ h => h) (Or.inl ⟨by rfl, ?_⟩) ?_ ?_
    rotate_left
    · intro w'
      go_simp
      with_reducible rfl
    rotate_left
    · simp only [Act.put, List.setIfInBounds_toArray, List.set_cons_zero, List.set_cons_succ, i64_w, i32_w]
      rfl
    refine done_ (done_of HT_.out (by kernel_rfl)) ?_
    obtain ⟨h0, h1, h2, f1, f2⟩ := H2.out.look
    go_wp2
    go_ret
    exact ⟨rfl, H2.out⟩

end Go.Proofs.Ytcgajjaaiablkaa.RefRd
