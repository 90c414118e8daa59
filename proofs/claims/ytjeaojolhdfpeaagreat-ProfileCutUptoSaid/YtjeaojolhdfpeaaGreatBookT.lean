/- Profile's book: tell: a note is made, and what was handed in is written over. -/
import Derived.Test.YtjeaojolhdfpeaaGreatBookU
import Derived.Test.YtjeaojolhdfpeaaGreatBookV
namespace Go.Proofs.YtjeaojolhdfpeaaGreat.BookT
open Go.RowKit Go.Maps Go.Proofs.YtjeaojolhdfpeaaGreatW.PrintWords Go.Proofs.YtjeaojolhdfpeaaGreatW.PrintLast Go.Proofs.YtjeaojolhdfpeaaGreatW.PrintMore
open Go.Proofs.YtjeaojolhdfpeaaGreat.PProfileCut Go.Proofs.YtjeaojolhdfpeaaGreat.BookB Go.Proofs.YtjeaojolhdfpeaaGreat.BookO Go.Proofs.YtjeaojolhdfpeaaGreat.BookU Go.Proofs.YtjeaojolhdfpeaaGreat.BookV
set_option linter.unusedVariables false
set_option linter.unusedSimpArgs false

theorem Bk.shrink {W : World} {S : Nat → Prop} {bp : Nat} {F : List (List S51)} {N : Nat} (h : Bk W S bp F N) : Bk W (fun k => S k ∧ k < W.heap.size) bp F N := by
  obtain ⟨mp, A, c, D, h⟩ := h
  exact ⟨mp, A, c, D, h.shrink⟩
/-- What stands behind the note, while what was handed in is written over. -/
structure TS (w : World) (S S' : Nat → Prop) (bp : Nat) (F : List (List S51)) (N : Nat) (g n : Nat) (W : World) : Prop where
  book : Bk W S' bp F N
  turn : Turn w W S
  row : ∃ cells, W.heap[g]? = some (.cells cells 48 (0, 0)) ∧ n * 2 ≤ cells.size
  fresh : w.heap.size ≤ g ∧ ¬ S' g
theorem TS.put {w W : World} {S S' : Nat → Prop} {bp : Nat} {F : List (List S51)} {N g n : Nat} (h : TS w S S' bp F N g n W) (j : Nat) (u : Value) : TS w S S' bp F N g n (W.setCell ⟨g, j, none⟩ u) := by
  obtain ⟨cells, hc, hn⟩ := h.row
  refine ⟨h.book.turn (Turn.set W ⟨g, j, none⟩ u (S := fun k => k = g) rfl) (fun k hk e => h.fresh.2 (e ▸ hk)), h.turn.then_ (Turn.set W ⟨g, j, none⟩ u (S := fun k => k = g) rfl) (fun k e => .inr (by subst e; exact h.fresh.1)), ⟨_, blk_set hc j u, by simpa using hn⟩, h.fresh⟩
def r13_2_T : Bool × List (List Nat × List Nat) := (true, [([], []), ([], []), ([1], [1]), ([], []), ([3], [3]), ([], []), ([], []), ([6], [6]), ([7], [7]), ([5, 8], [5, 8]), ([], []), ([10], [10]), ([0, 2, 4, 9, 11], [0, 2, 4, 9, 11])])
def r13_2_B : List Nat := [0, 0, 2, 0, 8, 0, 0, 64, 192, 480, 0, 1024, 4095]
theorem r13_2_tab : rtab .any (opsOf Tryz.f13 2) = r13_2_T := by kernel_rfl
theorem r13_2_bits : waitsOk r13_2_T.2 r13_2_B = true := by kernel_rfl
set_option maxHeartbeats 8000000 in
set_option maxRecDepth 100000 in
theorem tell_calls (w0 : World) (bp N : Nat) (S : Nat → Prop) (F : List (List S51)) (on fn pc : Int) (A : Option Addr) (c : Nat) (l : List S48) (callee : Int) (ask : Bool) (w : World) (hB : Bk w S bp F N) (hS : ∀ k, S k → w0.heap.size ≤ k ∧ k < w.heap.size) (hb : Below w0.heap.size w0 w)
    (hv : Kd.C k48 w0 A l.length l) (hc : l.length ≤ c) (hl : l.length < 4398046511104) (hN : N < 1099511627776) (hrg : ∀ i j, -9223372036854775808 ≤ (gt F i j).f0 ∧ (gt F i j).f0 ≤ 9223372036854775807) :
    Calls Tryz.prog 13 #[.pointer (some ⟨bp, 0, none⟩), .agg #[.int .i64 on, .int .i64 fn, .int .i64 pc, .slice A l.length c, .int .i64 callee, .bool ask]] w fun e w' => e = .returned (.bool true) ∧ ∃ S', Bk w' S' bp (noteF F fn pc l callee) (N + 1) ∧ (∀ k, S' k → S k ∨ w.heap.size ≤ k) ∧ Turn w w' S := by
  obtain ⟨kl, hkl⟩ := lentv_ev l hl
  have HKL := Aside0.mk hkl
  have HBk := Aside0.mk hB
  have HS := Aside0.mk hS
  have HB := Aside0.mk hb
  have HV := Aside0.mk hv
  have HRG := Aside0.mk hrg
  clear hkl hB hS hb hv hrg
  go_enter Tryz.func13, Tryz.ntmps13
  go_upto_region 1 with fail
  have B3 := Aside0.mk (blk_new w (.cells #[.int .i64 on, .int .i64 fn, .int .i64 pc, .slice A l.length c, .int .i64 callee, .bool ask] 41))
  have T1 := Aside0.mk (Turn.alloc w (.cells #[.int .i64 on, .int .i64 fn, .int .i64 pc, .slice A l.length c, .int .i64 callee, .bool ask] 41) (fun _ => False))
  generalize w.alloc (.cells #[.int .i64 on, .int .i64 fn, .int .i64 pc, .slice A l.length c, .int .i64 callee, .bool ask] 41) = W1 at B3 T1 ⊢
  have hc3 : W1.cell? ⟨w.heap.size, 3, none⟩ = some (.slice A l.length c) := (blk_cell B3.out 3).trans rfl
  have HL := Aside0.mk (portagekit_LentValues.calls kl A c l (l ++ vmarks 64) W1 (Kd.C_below (Kd.C_below HV.out HB.out) (T1.out.below (fun _ h => h.elim) (Nat.le_refl _))) hc HKL.out)
  go_wp2_with (first
    | (go_at_call 36; refine HL.out.mono ?_; rintro e w2 ⟨v5, rfl, hr5, hb5⟩; refine Aside0.out (p := _) ?_)
    | go_in)
  clear HL hc3 HKL
  have hl5 : (l ++ vmarks 64).length = l.length + 64 := by rw [List.length_append, vmarks_length]
  obtain ⟨g5, c5, he5, hb5', hlt5, cells5, hcells5⟩ := Kd.R_form hr5 (by omega)
  subst he5
  rw [hl5] at hr5 ⊢
  have hc5 : l.length + 64 ≤ c5 := by have := (Kd.R_reads' hr5).2.1; omega
  have hsz5 : l.length + 64 ≤ cells5.size / 2 := by
    obtain ⟨_, inner, hown, _⟩ := hr5
    rcases hown.2 with ⟨h, _⟩ | ⟨g, cap, cur, h, _, hh, hnc, hcm, hcs, _⟩
    · cases h
    · injection h with h1 _ h3
      injection h1 with h1
      injection h1 with h1
      subst h1
      rw [hcells5] at hh
      injection hh with hh
      injection hh with hh
      subst hh
      have hz : k48.sz = 2 := rfl
      rw [hz] at hcs
      omega
  have HR5 := Aside0.mk (Kd.R_mono (Kd.R_bound hr5) (fun k hk => hk.2.1))
  have HW1 := Aside0.mk T1.out.size
  have hcl : l.length ≤ c5 := by omega
  have HC5 := Aside0.mk hcells5
  have HZ5 := Aside0.mk hsz5
  have B3' := Aside0.mk (blk_below B3.out hb5)
  have T2 : Aside0 (Turn w w2 (fun _ => False)) := ⟨T1.out.then_ (Turn.of_below hb5 (fun _ => False)) (fun _ h => h.elim)⟩
  have hfr : w.heap.size ≤ g5 := Nat.le_trans T1.out.size hb5'
  clear hr5 hcells5 hsz5 hb5 B3 T1 hl5 hb5' hlt5
  refine Aside0.mk ?_
  go_wp2_with fail
  replace T2 : Aside0 (Turn w w2.drew (fun _ => False)) := ⟨T2.out.then_ (Turn.of_below (below_drew (Below.refl _ w2)) (fun _ => False)) (fun _ h => h.elim)⟩
  replace HR5 := Aside0.mk (Kd.R_drew HR5.out)
  replace HC5 : Aside0 (w2.drew.heap[g5]? = some (.cells cells5 48 (0, 0))) := ⟨HC5.out⟩
  replace B3' : Aside0 (w2.drew.heap[w.heap.size]? = some (.cells #[.int .i64 on, .int .i64 fn, .int .i64 pc, .slice A l.length c, .int .i64 callee, .bool ask] 41 (0, 0))) := ⟨B3'.out⟩
  refine start_ (n := 13) (S := fun w' => w'.cell? ⟨w.heap.size, 1, none⟩ = some (.int .i64 fn) ∧ w'.cell? ⟨w.heap.size, 2, none⟩ = some (.int .i64 pc) ∧ w'.cell? ⟨w.heap.size, 3, none⟩ = some (.slice A l.length c) ∧ w'.cell? ⟨w.heap.size, 4, none⟩ = some (.int .i64 callee)) (ds := []) #[false, false, false, false, false, false, false, false, false, false, false, false, false] (by kernel_rfl) rfl rfl ⟨(blk_cell B3'.out 1).trans rfl, (blk_cell B3'.out 2).trans rfl, (blk_cell B3'.out 3).trans rfl, (blk_cell B3'.out 4).trans rfl⟩ (fun hHeld => ?_)
  refine with_tabW r13_2_tab r13_2_bits (fun HT_ HW_ => ?_)
  generalize World.drew w2 = W3 at T2 HR5 HC5 B3' hHeld ⊢
  refine pure_ (i := 0) (N := some 11) (v := ?_) (a' := ?_) #[true, false, false, false, false, false, false, false, false, false, false, false, false] rfl rfl (any_of HT_.out (by kernel_rfl)) (fun _ _ _ h => h) (Or.inl ⟨by rfl, ?_⟩) ?_ ?_
  rotate_left
  · intro w'
    go_simp
    with_reducible rfl
  rotate_left
  · simp only [Act.put, List.setIfInBounds_toArray, List.set_cons_zero, List.set_cons_succ, i64_w, i32_w]
    rfl
  refine pure_ (i := 1) (N := some 12) (v := ?_) (a' := ?_) #[true, true, false, false, false, false, false, false, false, false, false, false, false] rfl rfl (any_of HT_.out (by kernel_rfl)) (fun _ _ _ h => h) (Or.inl ⟨by rfl, ?_⟩) ?_ ?_
  rotate_left
  · intro w'
    go_simp
    with_reducible rfl
  rotate_left
  · simp only [Act.put, List.setIfInBounds_toArray, List.set_cons_zero, List.set_cons_succ, i64_w, i32_w]
    rfl
  refine pure_ (i := 3) (N := some 14) (v := ?_) (a' := ?_) #[true, true, false, true, false, false, false, false, false, false, false, false, false] rfl rfl (any_of HT_.out (by kernel_rfl)) (fun _ _ _ h => h) (Or.inl ⟨by rfl, ?_⟩) ?_ ?_
  rotate_left
  · intro w'
    go_simp
    with_reducible rfl
  rotate_left
  · simp only [Act.put, List.setIfInBounds_toArray, List.set_cons_zero, List.set_cons_succ, i64_w, i32_w]
    rfl
  refine pure_ (i := 5) (N := some 16) (v := ?_) (a' := ?_) #[true, true, false, true, false, true, false, false, false, false, false, false, false] rfl rfl (any_of HT_.out (by kernel_rfl)) (fun _ _ _ h => h) (Or.inl ⟨by rfl, ?_⟩) ?_ ?_
  rotate_left
  · intro w'
    go_simp
    with_reducible rfl
  rotate_left
  · simp only [Act.put, List.setIfInBounds_toArray, List.set_cons_zero, List.set_cons_succ, i64_w, i32_w]
    rfl
  refine pure_ (i := 6) (N := some 17) (v := ?_) (a' := ?_) #[true, true, false, true, false, true, true, false, false, false, false, false, false] rfl rfl (any_of HT_.out (by kernel_rfl)) (fun _ _ _ h => h) (Or.inl ⟨by rfl, ?_⟩) ?_ ?_
  rotate_left
  · intro w'
    go_simp
    with_reducible rfl
  rotate_left
  · simp only [Act.put, List.setIfInBounds_toArray, List.set_cons_zero, List.set_cons_succ, i64_w, i32_w]
    rfl
  refine pure_ (i := 10) (N := some 21) (v := ?_) (a' := ?_) #[true, true, false, true, false, true, true, false, false, false, true, false, false] rfl rfl (any_of HT_.out (by kernel_rfl)) (fun _ _ _ h => h) (Or.inl ⟨by rfl, ?_⟩) ?_ ?_
  rotate_left
  · intro w'
    go_simp
    with_reducible rfl
  rotate_left
  · simp only [Act.put, List.setIfInBounds_toArray, List.set_cons_zero, List.set_cons_succ, i64_w, i32_w]
    rfl
  refine take_ (i := 2) (N := some 13) (v := ?_) (a' := ?_) #[true, true, true, true, false, true, true, false, false, false, true, false, false] rfl rfl (take_ofW HT_.out HW_.out (by kernel_rfl)) (fun _ _ _ h => h) (Or.inl ⟨by rfl, ?_⟩) hHeld ?_ ?_
  rotate_left
  · rintro w' ⟨s0, s1, s2, s3⟩
    go_simp
    with_reducible rfl
  rotate_left
  · simp only [Act.put, List.setIfInBounds_toArray, List.set_cons_zero, List.set_cons_succ, i64_w, i32_w]
    rfl
  refine take_ (i := 4) (N := some 15) (v := ?_) (a' := ?_) #[true, true, true, true, true, true, true, false, false, false, true, false, false] rfl rfl (take_ofW HT_.out HW_.out (by kernel_rfl)) (fun _ _ _ h => h) (Or.inl ⟨by rfl, ?_⟩) hHeld ?_ ?_
  rotate_left
  · rintro w' ⟨s0, s1, s2, s3⟩
    go_simp
    with_reducible rfl
  rotate_left
  · simp only [Act.put, List.setIfInBounds_toArray, List.set_cons_zero, List.set_cons_succ, i64_w, i32_w]
    rfl
  refine take_ (i := 7) (N := some 18) (v := ?_) (a' := ?_) #[true, true, true, true, true, true, true, true, false, false, true, false, false] rfl rfl (take_ofW HT_.out HW_.out (by kernel_rfl)) (fun _ _ _ h => h) (Or.inl ⟨by rfl, ?_⟩) hHeld ?_ ?_
  rotate_left
  · rintro w' ⟨s0, s1, s2, s3⟩
    go_simp
    with_reducible rfl
  rotate_left
  · simp only [Act.put, List.setIfInBounds_toArray, List.set_cons_zero, List.set_cons_succ, i64_w, i32_w]
    rfl
  refine take_ (i := 11) (N := some 22) (v := ?_) (a' := ?_) #[true, true, true, true, true, true, true, true, false, false, true, true, false] rfl rfl (take_ofW HT_.out HW_.out (by kernel_rfl)) (fun _ _ _ h => h) (Or.inl ⟨by rfl, ?_⟩) hHeld ?_ ?_
  rotate_left
  · rintro w' ⟨s0, s1, s2, s3⟩
    go_simp
    with_reducible rfl
  rotate_left
  · simp only [Act.put, List.setIfInBounds_toArray, List.set_cons_zero, List.set_cons_succ, i64_w, i32_w]
    rfl
  refine pure_ (i := 8) (N := some 19) (v := ?_) (a' := ?_) #[true, true, true, true, true, true, true, true, true, false, true, true, false] rfl rfl (any_of HT_.out (by kernel_rfl)) (fun _ _ _ h => h) (Or.inl ⟨by rfl, ?_⟩) ?_ ?_
  rotate_left
  · intro w'
    go_simp
    with_reducible rfl
  rotate_left
  · simp only [Act.put, List.setIfInBounds_toArray, List.set_cons_zero, List.set_cons_succ, i64_w, i32_w]
    rfl
  refine pure_ (i := 9) (N := some 20) (v := ?_) (a' := ?_) #[true, true, true, true, true, true, true, true, true, true, true, true, false] rfl rfl (any_of HT_.out (by kernel_rfl)) (fun _ _ _ h => h) (Or.inl ⟨by rfl, ?_⟩) ?_ ?_
  rotate_left
  · intro w'
    go_simp
    with_reducible rfl
  rotate_left
  · simp only [Act.put, List.setIfInBounds_toArray, List.set_cons_zero, List.set_cons_succ, i64_w, i32_w]
    rfl
  have HBk3 := Aside0.mk ((HBk.out.turn T2.out (fun _ _ h => h)))
  have HN := Aside0.mk (note_calls bp N S F fn pc (some ⟨g5, 0, none⟩) c5 l callee W3 HBk3.out (fun W' hk => ?hrow) (by omega) (by omega) hN HRG.out)
  case hrow =>
    have h1 := Kd.R_kept HR5.out hk (fun k hk2 hs => by have := (HS.out k hs).2; have := HW1.out; omega)
    obtain ⟨_, _, h2⟩ := Kd.R_reads' h1
    have h3 := Kd.C_take (m := l.length) h2 (by rw [List.length_append]; omega)
    rw [List.take_left] at h3
    exact h3
  refine one_ (i := 12) (N := some 23) #[true, true, true, true, true, true, true, true, true, true, true, true, true] rfl rfl (one_of HT_.out (by kernel_rfl)) (by decide) (fun K hK => ?_)
  refine goes_ Tryz.func17 (by kernel_rfl) rfl #[.pointer (some ⟨bp, 0, none⟩), .int .i64 fn, .int .i64 pc, .slice (some ⟨g5, 0, none⟩) l.length c5, .int .i64 callee] (by rfl) rfl rfl (by (try simp only [List.map_toArray, List.map_cons, List.map_nil]); first | done | rfl) ?_
  refine (HN.out).mono ?_
  rintro e w4 ⟨rfl, S', hB4, hT4, hS4⟩
  refine ⟨_, rfl, ?_⟩
  have B4 := Aside0.mk (hT4.heap B3'.out (fun e => by have := (HS.out _ e).2; omega))
  have HR4 := Aside0.mk (Kd.R_kept HR5.out hT4.kept (fun k hk2 hs => by have := (HS.out k hs).2; have := HW1.out; omega))
  have HC4 := Aside0.mk (hT4.heap HC5.out (fun e => by have := (HS.out _ e).2; omega))
  have HB4 := Aside0.mk hB4
  have HS4 := Aside0.mk hS4
  have HG5 : Aside0 (g5 < W3.heap.size) := ⟨blk_lt HC5.out⟩
  have HT4 : Aside0 (Turn w w4 S) := ⟨(T2.out.mono (fun _ h => h.elim)).then_ hT4 (fun k hk => .inl hk)⟩
  clear hB4 hT4 hS4 HN HBk3
  refine hK.out _ _ ⟨(blk_cell B4.out 1).trans rfl, (blk_cell B4.out 2).trans rfl, (blk_cell B4.out 3).trans rfl, (blk_cell B4.out 4).trans rfl⟩ (fun hHeld => ?_)
  clear hK K
  refine norm_ (a' := ?_) ?_ ?_
  rotate_left
  · show Act.put _ (some 23) _ = _
    simp only [Act.put, List.setIfInBounds_toArray, List.set_cons_zero, List.set_cons_succ, i64_w, i32_w]
    rfl
  refine done_ (done_of HT_.out (by kernel_rfl)) ?_
  clear hHeld
  have hc3 : w4.cell? ⟨w.heap.size, 3, none⟩ = some (.slice A l.length c) := (blk_cell B4.out 3).trans rfl
  have hg4 : Kd.C k48 w4 (some ⟨g5, 0, none⟩) (l.length + 64) (l ++ vmarks 64) := by
    obtain ⟨e, _, h⟩ := Kd.R_reads' HR4.out
    rw [← e] at h
    exact h
  have HK := Aside0.mk (keptv_calls (some ⟨g5, 0, none⟩) A c5 c l w4 hg4 hc5 (Kd.C_below HV.out (HB.out.trans (HT4.out.below (fun k hk => (HS.out k hk).1) HB.out.size))) hc hl)
  clear hg4
  go_wp2_with (first
    | (go_at_call 37; refine HK.out.mono ?_; rintro e w5 ⟨rfl, hb5⟩; refine Aside0.out (p := _) ?_)
    | go_in)
  have HTS : Aside0 (TS w S S' bp (noteF F fn pc l callee) (N + 1) g5 (l.length + 64) w5) := ⟨⟨HB4.out.turn (Turn.of_below hb5 (fun _ => False)) (fun _ _ h => h), HT4.out.then_ (Turn.of_below hb5 (fun _ => False)) (fun _ h => h.elim), ⟨cells5, blk_below HC4.out hb5, by have := HZ5.out; omega⟩, hfr, fun e => by
    rcases HS4.out _ e with h | h
    · have := (HS.out _ h).2
      omega
    · have := HG5.out
      omega⟩⟩
  have HSS : Aside0 (∀ k, S' k → S k ∨ w.heap.size ≤ k) := ⟨fun k hk => (HS4.out k hk).imp id (fun h => Nat.le_trans T2.out.size h)⟩
  clear HK hc3 hb5 B4 HR4 HC4 HB4 HS4 HG5 HT4 HR5 HC5 HZ5 B3' T2
  refine Aside0.mk ?_
  go_wp2_with fail
  go_loopw [7] (fun i wr => ∃ k : Nat, k ≤ l.length + 64 ∧ i = .int .i64 k ∧ Aside0 (TS w S S' bp (noteF F fn pc l callee) (N + 1) g5 (l.length + 64) wr)) (fun i _ => l.length + 64 - (intOf i).toNat)
  case atStart => exact ⟨0, Nat.zero_le _, rfl, HTS⟩
  case round =>
    clear HTS
    obtain ⟨k, hk, rfl, HTS⟩ := hrel
    by_cases hlt : k < l.length + 64
    · obtain ⟨cells, hcb, hcn⟩ := HTS.out.row
      obtain ⟨y0, hx0⟩ : ∃ y, wr.cell? ⟨g5, k * 2, none⟩ = some y := ⟨_, (blk_cell hcb _).trans (Array.getElem?_eq_getElem (by omega))⟩
      obtain ⟨y1, hx1⟩ : ∃ y, wr.cell? ⟨g5, k * 2 + 1, none⟩ = some y := ⟨_, (blk_cell hcb _).trans (Array.getElem?_eq_getElem (by omega))⟩
      have hf0 := blk_frozen hcb (k * 2)
      have hf1 := blk_frozen hcb (k * 2 + 1)
      clear hcb hcn
      go_wp2_with fail
      go_roundw
      case rel => exact ⟨k + 1, by omega, by go_num, ⟨(HTS.out.put _ _).put _ _⟩⟩
      case measure => simp [intOf]; omega
    · go_wp2_with fail
      go_ret
      exact ⟨rfl, S', HTS.out.book, HSS.out, HTS.out.turn⟩
end Go.Proofs.YtjeaojolhdfpeaaGreat.BookT
