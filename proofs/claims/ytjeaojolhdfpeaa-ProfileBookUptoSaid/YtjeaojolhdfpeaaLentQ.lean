/- What the laws' own lent and kept do: lent copies a profile, 64 marks behind the spots of each function; kept says whether such a profile is as it was lent. -/
import Derived.Test.YtjeaojolhdfpeaaBookX
import Derived.Deep.RegionHeld3
namespace Go.Proofs.Ytjeaojolhdfpeaa.LentQ
open Go.RowKit Go.Proofs.YtjeaojolhdfpeaaW.PrintWords Go.Proofs.YtjeaojolhdfpeaaW.PrintLast Go.Proofs.YtjeaojolhdfpeaaW.PrintMore
open Go.Proofs.Ytjeaojolhdfpeaa.PProfileBook
set_option linter.unusedVariables false
set_option linter.unusedSimpArgs false

def mark (i : Nat) : S28 := ⟨-9, 0, 0, (i : Int)⟩
def marks (n : Nat) : List S28 := (List.range n).map mark
theorem marks_zero : marks 0 = [] := rfl
theorem marks_succ (n : Nat) : marks (n + 1) = marks n ++ [mark n] := by simp [marks, List.range_succ]
theorem marks_length (n : Nat) : (marks n).length = n := by simp [marks]

/-- A row of spots with 64 marks in its spare room. -/
def kx : Kd (List S28) where
  sz := 1
  E := [28]
  K := fun w xs cs => ∃ A c, cs = [.slice A xs.length c] ∧ xs.length + 64 ≤ c ∧ k28.C w A (xs.length + 64) (xs ++ marks 64)
  M := fun w base ok xs cs => ∃ g c, cs = [.slice (some ⟨g, 0, none⟩) xs.length c] ∧ k28.R 28 w base ok (.slice (some ⟨g, 0, none⟩) (xs.length + 64) c) (xs ++ marks 64)
  K_len := by
    rintro w x cs ⟨A, c, rfl, _⟩
    rfl
  K_one := by
    rintro w x cs ⟨A, c, rfl, _⟩ u hu
    rw [List.mem_singleton.1 hu]
    rfl
  K_below := by
    rintro w w1 x cs hb ⟨A, c, rfl, hl, hr⟩
    exact ⟨A, c, rfl, hl, Kd.C_below hr hb⟩
  K_of_M := by
    rintro w base ok x cs ⟨g, c, rfl, h⟩
    obtain ⟨e, h1, h2⟩ := Kd.R_reads' h
    exact ⟨_, c, rfl, h1, by rw [← e] at h2; exact h2⟩
  M_mono := by
    rintro w base ok ok' x cs hok ⟨g, c, rfl, h⟩
    exact ⟨g, c, rfl, Kd.R_mono h hok⟩
  M_bound := by
    rintro w base ok x cs ⟨g, c, rfl, h⟩
    exact ⟨g, c, rfl, Kd.R_bound h⟩
  M_move := by
    rintro w w1 base ok x cs hm ⟨g, c, rfl, h⟩
    exact ⟨g, c, rfl, Kd.R_move h hm⟩
  M_lower := by
    rintro w base base' ok x cs hb ⟨g, c, rfl, h⟩
    exact ⟨g, c, rfl, Kd.R_lower h hb⟩

def Lent (l : List (List S28)) (w : World) (e : Ending) (w' : World) : Prop :=
  ∃ v, e = .returned (.agg #[v]) ∧ Kd.R kx 77 w' w.heap.size (fun k => w.heap.size ≤ k) v l ∧ Below w.heap.size w w'

structure St (w : World) (A : Option Addr) (n c : Nat) (u : Value) (xs : List (List S28)) (ok : Nat → Prop) (W : World) : Prop where
  b1 : W.heap[w.heap.size]? = some (.cells #[.slice A n c] 24 (0, 0))
  b2 : W.heap[w.heap.size + 1]? = some (.cells #[.slice none 0 0] 24 (0, 0))
  b3 : W.heap[w.heap.size + 1 + 1]? = some (.cells #[u] 24 (0, 0))
  own : Kd.R kx 77 W w.heap.size (fun k => w.heap.size ≤ k ∧ ok k) u xs
  below : Below w.heap.size w W
namespace St
variable {w W w1 : World} {A : Option Addr} {n c : Nat} {u v v1 : Value} {xs : List (List S28)} {ok ok' : Nat → Prop}
theorem alloc (h : St w A n c u xs ok W) (o : Obj) : St w A n c u xs ok (W.alloc o) := ⟨blk_alloc h.b1 o, blk_alloc h.b2 o, blk_alloc h.b3 o, Kd.R_alloc h.own o, below_alloc h.below o⟩
theorem drew (h : St w A n c u xs ok W) : St w A n c u xs ok W.drew := ⟨h.b1, h.b2, h.b3, Kd.R_drew h.own, below_drew h.below⟩
theorem mono (h : St w A n c u xs ok W) (hk : ∀ k, ok k → ok' k) : St w A n c u xs ok' W := ⟨h.b1, h.b2, h.b3, Kd.R_mono h.own (fun _ h => ⟨h.1, hk _ h.2⟩), h.below⟩
/-- Another row of spots, v, was grown. -/
theorem grown (h : St w A n c u xs (fun k => some k ≠ v.ownBlock) W) (hv : ∀ k, v.ownBlock = some k → ∃ cells, W.heap[k]? = some (.cells cells 28 (0, 0))) (hg : W.grownBy w1 v.ownBlock)
    (hat : v1.ownBlock = v.ownBlock ∨ ∃ b, v1.ownBlock = some b ∧ W.heap.size ≤ b) (hb : Below w.heap.size w w1) : St w A n c u xs (fun k => some k ≠ v1.ownBlock) w1 := by
  have hne : ∀ {g : Nat} {cells : Array Value}, W.heap[g]? = some (.cells cells 24 (0, 0)) → some g ≠ v.ownBlock := fun hc he => by
    obtain ⟨cells, h2⟩ := hv _ he.symm
    exact blk_ne hc h2 (by decide) rfl
  exact ⟨blk_grown h.b1 hg (hne h.b1), blk_grown h.b2 hg (hne h.b2), blk_grown h.b3 hg (hne h.b3), Kd.R_after h.own hg hat, hb⟩
end St

/-- The row that is cut and handed on: it stands apart from the list's own block. -/
theorem lent_row {W : World} {base : Nat} {Av : Option Addr} {cv : Nat} {x : List S28} {u : Value} {xs : List (List S28)} {ok : Nat → Prop} (h : Kd.R k28 28 W base (fun k => base ≤ k) (.slice Av (x ++ marks 64).length cv) (x ++ marks 64))
    (hu : Kd.R kx 77 W base ok u xs) : kx.M W base (fun k => base ≤ k ∧ some k ≠ u.ownBlock) x [.slice Av x.length cv] := by
  obtain ⟨g, cap, he, hg, _, _⟩ := Kd.R_form h (by rw [List.length_append, marks_length]; omega)
  injection he with h1 h2 h3
  subst h1; subst h3
  refine ⟨g, _, rfl, ?_⟩
  have h2 := Kd.R_apart' h (Kd.R_typed hu) (by decide)
  rw [List.length_append, marks_length] at h2
  exact h2

def r11_11_T : Bool × List (List Nat × List Nat) := (true, [([], []), ([0], [0]), ([], []), ([], []), ([3], [3]), ([], []), ([4, 5], [4, 5]), ([6], [6]), ([7], [7]), ([2, 8], [2, 8]), ([9], [9]), ([1, 10], [1, 10]), ([0, 1, 2, 3, 4, 5, 6, 7, 8, 9, 10, 11], []), ([12, 11, 11, 0, 1, 2, 3, 4, 5, 6, 7, 8, 9, 10, 11], [11, 12])])
def r11_11_B : List Nat := [0, 1, 0, 0, 8, 0, 56, 120, 248, 508, 1020, 2047, 4095, 8191]
theorem r11_11_tab : rtab .any (opsOf Try.f11 11) = r11_11_T := by kernel_rfl
theorem r11_11_bits : waitsOk r11_11_T.2 r11_11_B = true := by kernel_rfl
set_option maxHeartbeats 4000000 in
set_option maxRecDepth 100000 in
theorem lent_calls (A : Option Addr) (c : Nat) (l : List (List S28)) (w : World) (hr : Kd.C (Kd.slice 28 k28) w A l.length l) (hsz : l.length * 24 ≤ 140737488351232) (hin : ∀ x ∈ l, x.length * 24 ≤ 140737488351232) :
    Calls Try.prog 11 #[.agg #[.slice A l.length c]] w (Lent l w) := by
  obtain ⟨i0, hi0, _, _, _⟩ := info_parts info28
  have HR := Aside0.mk hr
  have HI := Aside0.mk hin
  clear hr hin
  have hS : St w A l.length c (.slice none 0 0) [] (fun _ => True) (((w.alloc (.cells #[.slice A l.length c] 24)).alloc (.cells #[.slice none 0 0] 24)).alloc (.cells #[.slice none 0 0] 24)) :=
    ⟨blk_alloc (blk_alloc (blk_new _ _) _) _, by have := blk_alloc (blk_new (w.alloc (.cells #[.slice A l.length c] 24)) (.cells #[.slice none 0 0] 24)) (.cells #[.slice none 0 0] 24); simpa using this,
      by have := blk_new ((w.alloc (.cells #[.slice A l.length c] 24)).alloc (.cells #[.slice none 0 0] 24)) (.cells #[.slice none 0 0] 24); simpa using this, Kd.R_nil _ _ _ _ _, below_alloc (below_alloc (below_alloc (Below.refl _ _) _) _) _⟩
  have HS := Aside0.mk hS
  clear hS
  go_enter Try.func11, Try.ntmps11
  go_wp2_with fail
  generalize ((w.alloc (.cells #[.slice A l.length c] 24)).alloc (.cells #[.slice none 0 0] 24)).alloc (.cells #[.slice none 0 0] 24) = W0 at HS ⊢
  go_loopw [4] (fun i wr => ∃ (k : Nat) (u : Value), k ≤ l.length ∧ i = .int .i64 k ∧ Aside0 (St w A l.length c u (l.take k) (fun _ => True) wr)) (fun i _ => l.length - (intOf i).toNat)
  case atStart => exact ⟨0, _, Nat.zero_le _, rfl, HS⟩
  case round =>
    clear HS
    obtain ⟨k, u, hk, rfl, HS⟩ := hrel
    have hc1 : wr.cell? ⟨w.heap.size, 0, none⟩ = some (.slice A l.length c) := (blk_cell HS.out.b1 0).trans rfl
    by_cases hlt : k < l.length
    · obtain ⟨ad, A0, c0, rfl, h0, hl0, hr0⟩ := at_L3 HR.out (k : Int) (by omega) (by omega)
      simp only [Int.toNat_natCast] at h0
      have hold := World.block_lt_of_cell? w _ h0
      have h00 := Aside0.mk h0
      replace h0 := (HS.out.below.cell hold).trans h0
      have HR0 := Aside0.mk (Kd.C_below hr0 HS.out.below)
      have hlen : (rd_L3 l (k : Int)).length * 24 ≤ 140737488351232 := HI.out _ (by simp [rd_L3, List.getD_eq_getElem?_getD, List.getElem?_eq_getElem hlt])
      clear hr0
      obtain ⟨x, hx⟩ : ∃ x, x = rd_L3 l (k : Int) := ⟨_, rfl⟩
      rw [← hx] at h0 h00 hl0 HR0 hlen
      have HX := Aside0.mk hx
      clear hx
      go_wp2_with (at_builtin; refine Kd.R_append_rows k28 (w0 := w) w.heap.size rfl (.tmp 14) (.tmp 19) 77 28 (.agg #[(.int .i64 0), (.int .u16 0), (.int .u16 0), (.int .i64 0)]) 24 rfl Try.underlying77 info28 rfl (by decide) (by omega) (.slice none 0 0) ([] : List S28) x _ _ _ (fun k_ => w.heap.size ≤ k_) (fun _ => False) rfl rfl (Kd.R_nil _ _ _ _ _) HR0.out (fun _ _ h => h) (fun _ h => h.elim) (fun k_ hk => Nat.le_trans HS.out.below.size hk) HS.out.below HS.out.below.size (by simp; omega) ?_; intro v1 w1 ho hb hg hat; have S1 := St.grown (v := .slice none 0 0) (HS.out.mono (fun _ _ => by simp [Value.ownBlock])) (fun k hk => by simp [Value.ownBlock] at hk) hg hat hb; have HS1 := Aside0.mk S1; have HO1 := Aside0.mk ho; clear S1 ho hb hg hat)
      have hRS : Kd.R k28 28 w1 w.heap.size (fun k => w.heap.size ≤ k) v1 (x ++ marks 0) := by rw [marks_zero, List.append_nil]; exact HO1.out
      have HO := Aside0.mk hRS
      clear hRS HO1 HS HR0
      go_loopw [5, 6] (fun v j wi => ∃ m : Nat, m ≤ 64 ∧ j = .int .i64 m ∧ Aside0 (St w (some ad) l.length c u (l.take k) (fun k => some k ≠ v.ownBlock) wi) ∧ Aside0 (Kd.R k28 28 wi w.heap.size (fun k => w.heap.size ≤ k) v (x ++ marks m))) (fun _ j _ => 64 - (intOf j).toNat)
      case atStart => exact ⟨0, by omega, rfl, HS1, HO⟩
      case round =>
        clear HS1 HO
        obtain ⟨m, hm, rfl, HS, HO⟩ := hrel
        by_cases hm64 : m < 64
        · go_wp2_with (at_builtin; refine Kd.R_append k28 (w0 := w) w.heap.size rfl (.tmp 25) (.tmp 28) 77 28 (.agg #[(.int .i64 0), (.int .u16 0), (.int .u16 0), (.int .i64 0)]) 24 rfl Try.underlying77 info28 rfl (by decide) (by omega) _ (x ++ marks m) (mark m) [.int .i64 (-9), .int .u16 0, .int .u16 0, .int .i64 m] (fun k_ => w.heap.size ≤ k_) (fun _ => False) rfl rfl (k28_mkM _ _ _ (mark m)) (fun _ hk => hk.elim) (fun k_ hk => Nat.le_trans HS.out.below.size hk) HO.out HS.out.below HS.out.below.size (by rw [List.length_append, marks_length]; omega) ?_; intro v2 w2 ho hb hg hat; have S2 := HS.out.grown (Kd.R_typed HO.out) hg hat hb; have HS2 := Aside0.mk S2; have HO2 := Aside0.mk ho; clear S2 ho hb hg hat)
          go_roundw
          case rel => exact ⟨m + 1, by omega, by go_num, HS2, ⟨by rw [marks_succ, ← List.append_assoc]; exact HO2.out⟩⟩
          case measure => simp [intOf]; omega
        · obtain rfl : m = 64 := by omega
          obtain ⟨Av, cv, rfl⟩ := Kd.R_slice HO.out
          have hcv : x.length ≤ cv := by have := (Kd.R_reads' HO.out).2.1; rw [List.length_append] at this; omega
          have hx0 : wr.cell? (ad.add k) = some (.slice A0 x.length c0) := (HS.out.below.cell hold).trans h00.out
          have HX0 := Aside0.mk hx0
          clear hx0
          go_wp2_with fail
          replace HS := Aside0.mk HS.out.drew
          replace HO := Aside0.mk (Kd.R_drew HO.out)
          replace HX0 : Aside0 (wr.drew.cell? (ad.add k) = some (.slice A0 x.length c0)) := ⟨HX0.out⟩
          refine start_ (n := 14) (S := fun w' => w'.cell? ⟨w.heap.size + 1 + 1, 0, none⟩ = some u ∧ w'.cell? ⟨w.heap.size, 0, none⟩ = some (.slice (some ad) l.length c) ∧ w'.cell? (ad.add k) = some (.slice A0 x.length c0)) (ds := [13]) #[false, false, false, false, false, false, false, false, false, false, false, false, false, false] (by kernel_rfl) rfl rfl ⟨(blk_cell HS.out.b3 0).trans rfl, (blk_cell HS.out.b1 0).trans rfl, HX0.out⟩ (fun hHeld => ?_)
          refine with_tabW r11_11_tab r11_11_bits (fun HT_ HW_ => ?_)
          generalize World.drew wr = W2 at HS HO HX0 hHeld ⊢
          refine pure_ (i := 0) (N := some 30) (v := ?_) (a' := ?_) #[true, false, false, false, false, false, false, false, false, false, false, false, false, false] rfl rfl (any_of HT_.out (by kernel_rfl)) (fun _ _ _ h => h) (Or.inl ⟨by rfl, ?_⟩) ?_ ?_
          rotate_left
          · intro w'
            go_simp
            with_reducible rfl
          rotate_left
          · simp only [Act.put, List.setIfInBounds_toArray, List.set_cons_zero, List.set_cons_succ, i64_w, i32_w]
            rfl
          refine pure_ (i := 2) (N := some 32) (v := ?_) (a' := ?_) #[true, false, true, false, false, false, false, false, false, false, false, false, false, false] rfl rfl (any_of HT_.out (by kernel_rfl)) (fun _ _ _ h => h) (Or.inl ⟨by rfl, ?_⟩) ?_ ?_
          rotate_left
          · intro w'
            go_simp
            with_reducible rfl
          rotate_left
          · simp only [Act.put, List.setIfInBounds_toArray, List.set_cons_zero, List.set_cons_succ, i64_w, i32_w]
            rfl
          refine pure_ (i := 3) (N := some 33) (v := ?_) (a' := ?_) #[true, false, true, true, false, false, false, false, false, false, false, false, false, false] rfl rfl (any_of HT_.out (by kernel_rfl)) (fun _ _ _ h => h) (Or.inl ⟨by rfl, ?_⟩) ?_ ?_
          rotate_left
          · intro w'
            go_simp
            with_reducible rfl
          rotate_left
          · simp only [Act.put, List.setIfInBounds_toArray, List.set_cons_zero, List.set_cons_succ, i64_w, i32_w]
            rfl
          refine pure_ (i := 5) (N := some 35) (v := ?_) (a' := ?_) #[true, false, true, true, false, true, false, false, false, false, false, false, false, false] rfl rfl (any_of HT_.out (by kernel_rfl)) (fun _ _ _ h => h) (Or.inl ⟨by rfl, ?_⟩) ?_ ?_
          rotate_left
          · intro w'
            go_simp
            with_reducible rfl
          rotate_left
          · simp only [Act.put, List.setIfInBounds_toArray, List.set_cons_zero, List.set_cons_succ, i64_w, i32_w]
            rfl
          refine take_ (i := 1) (N := some 31) (v := ?_) (a' := ?_) #[true, true, true, true, false, true, false, false, false, false, false, false, false, false] rfl rfl (take_ofW HT_.out HW_.out (by kernel_rfl)) (fun _ _ _ h => h) (Or.inl ⟨by rfl, ?_⟩) hHeld ?_ ?_
          rotate_left
          · rintro w' ⟨s0, s1, s2⟩
            go_simp
            with_reducible rfl
          rotate_left
          · simp only [Act.put, List.setIfInBounds_toArray, List.set_cons_zero, List.set_cons_succ, i64_w, i32_w]
            rfl
          refine take_ (i := 4) (N := some 34) (v := ?_) (a' := ?_) #[true, true, true, true, true, true, false, false, false, false, false, false, false, false] rfl rfl (take_ofW HT_.out HW_.out (by kernel_rfl)) (fun _ _ _ h => h) (Or.inl ⟨by rfl, ?_⟩) hHeld ?_ ?_
          rotate_left
          · rintro w' ⟨s0, s1, s2⟩
            go_simp
            with_reducible rfl
          rotate_left
          · simp only [Act.put, List.setIfInBounds_toArray, List.set_cons_zero, List.set_cons_succ, i64_w, i32_w]
            rfl
          refine pure_ (i := 6) (N := some 36) (v := ?_) (a' := ?_) #[true, true, true, true, true, true, true, false, false, false, false, false, false, false] rfl rfl (any_of HT_.out (by kernel_rfl)) (fun _ _ _ h => h) (Or.inl ⟨by rfl, ?_⟩) ?_ ?_
          rotate_left
          · intro w'
            go_simp
            with_reducible rfl
          rotate_left
          · simp only [Act.put, List.setIfInBounds_toArray, List.set_cons_zero, List.set_cons_succ, i64_w, i32_w]
            rfl
          refine take_ (i := 7) (N := some 37) (v := ?_) (a' := ?_) #[true, true, true, true, true, true, true, true, false, false, false, false, false, false] rfl rfl (take_ofW HT_.out HW_.out (by kernel_rfl)) (fun _ _ _ h => h) (Or.inl ⟨by rfl, ?_⟩) hHeld ?_ ?_
          rotate_left
          · rintro w' ⟨s0, s1, s2⟩
            go_simp
            with_reducible rfl
          rotate_left
          · simp only [Act.put, List.setIfInBounds_toArray, List.set_cons_zero, List.set_cons_succ, i64_w, i32_w]
            rfl
          refine pure_ (i := 8) (N := some 38) (v := ?_) (a' := ?_) #[true, true, true, true, true, true, true, true, true, false, false, false, false, false] rfl rfl (any_of HT_.out (by kernel_rfl)) (fun _ _ _ h => h) (Or.inl ⟨by rfl, ?_⟩) ?_ ?_
          rotate_left
          · intro w'
            go_simp
            with_reducible rfl
          rotate_left
          · simp only [Act.put, List.setIfInBounds_toArray, List.set_cons_zero, List.set_cons_succ, i64_w, i32_w]
            rfl
          refine pure_ (i := 9) (N := some 39) (v := ?_) (a' := ?_) #[true, true, true, true, true, true, true, true, true, true, false, false, false, false] rfl rfl (any_of HT_.out (by kernel_rfl)) (fun _ _ _ h => h) (Or.inl ⟨by rfl, ?_⟩) ?_ ?_
          rotate_left
          · intro w'
            go_simp
            with_reducible rfl
          rotate_left
          · simp only [Act.put, List.setIfInBounds_toArray, List.set_cons_zero, List.set_cons_succ, i64_w, i32_w]
            rfl
          refine one_ (i := 10) (N := some 40) #[true, true, true, true, true, true, true, true, true, true, true, false, false, false] rfl rfl (one_of HT_.out (by kernel_rfl)) (by decide) (fun K hK => ?_)
          refine value_ (w1 := ?_) (v := ?_) (by rfl) rfl ?_ ?_
          rotate_left 2
          · go_simp
            constructor
            · rfl
            · rfl
          refine hK.out _ _ ⟨(blk_cell (blk_alloc HS.out.b3 _) 0).trans rfl, (blk_cell (blk_alloc HS.out.b1 _) 0).trans rfl, (World.cell?_alloc_lt _ _ _ (World.block_lt_of_cell? _ _ HX0.out)).trans HX0.out⟩ (fun hHeld => ?_)
          clear hK K
          refine norm_ (a' := ?_) ?_ ?_
          rotate_left
          · show Act.put _ (some 40) _ = _
            simp only [Act.put, List.setIfInBounds_toArray, List.set_cons_zero, List.set_cons_succ, i64_w, i32_w]
            rfl
          refine one_ (i := 11) (N := some 41) #[true, true, true, true, true, true, true, true, true, true, true, true, false, false] rfl rfl (one_of HT_.out (by kernel_rfl)) (by decide) (fun K hK => ?_)
          refine Kd.R_append_step kx (w0 := w) w.heap.size (by rfl) (.tmp 31) (.tmp 40) 22 77 (.slice none 0 0) 24 rfl Try.underlying22 info77 rfl (by decide) (by omega) u (l.take k) x [.slice Av x.length cv] (fun k_ => w.heap.size ≤ k_) (fun k_ => w.heap.size ≤ k_ ∧ some k_ ≠ u.ownBlock) rfl rfl ?aP (fun _ hk => hk) (fun k_ hk => Nat.le_trans HS.out.below.size hk) (Kd.R_mono HS.out.own (fun _ hk => hk.1)) HS.out.below HS.out.below.size (by rw [List.length_take]; omega) ?_
          case aP => exact lent_row HO.out HS.out.own
          intro v2 w2 ho hb hg hat
          have HB2 := Aside0.mk hb
          have HO2 := Aside0.mk ho
          have hne : ∀ {g : Nat} {cells : Array Value}, W2.heap[g]? = some (.cells cells 24 (0, 0)) → some g ≠ u.ownBlock := fun hc => Kd.R_ne HS.out.own hc (by decide)
          have HN := Aside0.mk (blk_grown HS.out.b1 hg (hne HS.out.b1))
          have HM := Aside0.mk (blk_grown HS.out.b2 hg (hne HS.out.b2))
          have HL := Aside0.mk (blk_grown HS.out.b3 hg (hne HS.out.b3))
          have HX2 : Aside0 (w2.cell? (ad.add k) = some (.slice A0 x.length c0)) := ⟨(hb.cell hold).trans h00.out⟩
          clear ho hb hg hat hne HX0
          refine hK.out _ _ ⟨(blk_cell HL.out 0).trans rfl, (blk_cell HN.out 0).trans rfl, HX2.out⟩ (fun hHeld => ?_)
          clear hK K
          refine norm_ (a' := ?_) ?_ ?_
          rotate_left
          · show Act.put _ (some 41) _ = _
            simp only [Act.put, List.setIfInBounds_toArray, List.set_cons_zero, List.set_cons_succ, i64_w, i32_w]
            rfl
          refine pure_ (i := 12) (N := some 42) (v := ?_) (a' := ?_) #[true, true, true, true, true, true, true, true, true, true, true, true, true, false] rfl rfl (any_of HT_.out (by kernel_rfl)) (fun _ _ _ h => h) (Or.inl ⟨by rfl, ?_⟩) ?_ ?_
          rotate_left
          · intro w'
            go_simp
            with_reducible rfl
          rotate_left
          · simp only [Act.put, List.setIfInBounds_toArray, List.set_cons_zero, List.set_cons_succ, i64_w, i32_w]
            rfl
          refine last_ (i := 13) (N := none) #[true, true, true, true, true, true, true, true, true, true, true, true, true, true] rfl rfl (one_of HT_.out (by kernel_rfl)) (by decide) (fun K hK => ?_)
          have hs3 : w2.cell? ⟨w.heap.size + 1 + 1, 0, none⟩ = some u := (blk_cell HL.out 0).trans rfl
          have hfs3 := blk_frozen HL.out 0
          obtain ⟨Au2, cu2, rfl⟩ := Kd.R_slice HO2.out
          refine skip_ (w1 := ?_) (by rfl) rfl ?_ ?_
          rotate_left
          · go_simp
            rfl
          refine hK.out _ _ ?_
          clear hK K
          refine done_ (done_of HT_.out (by kernel_rfl)) ?_
          go_wp2
          go_roundw
          case rel =>
            have ht : l.take (k + 1) = l.take k ++ [x] := by
              rw [List.take_succ_eq_append_getElem hlt, HX.out]
              simp [rd_L3, List.getD_eq_getElem?_getD, List.getElem?_eq_getElem hlt]
            have hR := Kd.R_set HO2.out HL.out (by decide) 0 (.slice Au2 (k + 1) cu2)
            have hl2 : (l.take k ++ [x]).length = k + 1 := by rw [← ht, List.length_take]; omega
            rw [hl2, ← ht] at hR
            exact ⟨k + 1, .slice Au2 (k + 1) cu2, by omega, by go_num, ⟨⟨blk_far HN.out (by simp; omega) _, blk_far HM.out (by simp) _, blk_put HL.out 0 _ rfl, Kd.R_mono hR (fun _ hk => ⟨hk, trivial⟩), below_set HB2.out (by omega)⟩⟩⟩
          case measure => simp [intOf]; omega
    · obtain rfl : k = l.length := by omega
      rw [List.take_length] at HS
      obtain ⟨Au, cu, rfl⟩ := Kd.R_slice HS.out.own
      have hc2 : wr.cell? ⟨w.heap.size + 1, 0, none⟩ = some (.slice none 0 0) := (blk_cell HS.out.b2 0).trans rfl
      have hf2 := blk_frozen HS.out.b2 0
      have hc3 := blk_cell HS.out.b3 0
      replace hc3 := hc3.trans rfl
      go_wp2
      refine bodyPost_ret (results_cell_row rfl _ _ (w.heap.size + 1) 24 #[.slice Au l.length cu] (0, 0) _ rfl (blk_put HS.out.b2 0 _ rfl) Try.underlying24 rfl (by kernel_rfl)) rfl ?_
      exact ⟨_, rfl, Kd.R_mono (Kd.R_set HS.out.own HS.out.b2 (by decide) 0 (.slice Au l.length cu)) (fun _ hk => hk.1), below_set HS.out.below (by omega)⟩
end Go.Proofs.Ytjeaojolhdfpeaa.LentQ
