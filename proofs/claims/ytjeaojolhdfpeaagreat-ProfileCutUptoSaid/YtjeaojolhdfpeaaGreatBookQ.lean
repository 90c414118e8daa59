/- Profile's book: the sort of its places. -/
import Derived.Test.YtjeaojolhdfpeaaGreatBookB
import Derived.Test.YtjeaojolhdfpeaaGreatShelfQ
namespace Go.Proofs.YtjeaojolhdfpeaaGreat.BookQ
open Go.RowKit Go.Maps Go.Sort Go.Shelf Go.Lib Go.Proofs.YtjeaojolhdfpeaaGreatW.PrintWords Go.Proofs.YtjeaojolhdfpeaaGreatW.PrintLast Go.Proofs.YtjeaojolhdfpeaaGreatW.PrintMore
open Go.Proofs.YtjeaojolhdfpeaaGreat.HotP Go.Proofs.YtjeaojolhdfpeaaGreat.HotC
set_option linter.unusedVariables false
set_option linter.unusedSimpArgs false

abbrev pk : Kd (Int × Int) := Kd.pair (Kd.int .i64) (Kd.int .i64)
/-- A place's two cells. -/
def ep (x : Int × Int) : List Value := [.int .i64 x.1, .int .i64 x.2]
def cp (x y : Int × Int) : Int := orI (cmpI x.1 y.1) (cmpI x.2 y.2)
theorem cp_neg (x y : Int × Int) : ltOf cp x y = true ↔ x.1 < y.1 ∨ (x.1 = y.1 ∧ x.2 < y.2) := by
  unfold ltOf
  rw [decide_eq_true_iff]
  unfold cp orI cmpI
  repeat' split
  all_goals omega
theorem cp_no (x y : Int × Int) : ltOf cp x y = false ↔ ¬ (x.1 < y.1 ∨ (x.1 = y.1 ∧ x.2 < y.2)) := by
  rw [← cp_neg x y]
  simp
theorem swo_cp : SWO (ltOf cp) where
  irrefl x := (cp_no x x).2 (by omega)
  trans x y z h1 h2 := (cp_neg x z).2 (by have := (cp_neg x y).1 h1; have := (cp_neg y z).1 h2; omega)
  ntrans x y z h1 h2 := (cp_no x z).2 (by have := (cp_no x y).1 h1; have := (cp_no y z).1 h2; omega)
def r39_1_T : Bool × List (List Nat × List Nat) := (true, [([], []), ([0], [0]), ([], []), ([2], [2]), ([1, 3], [1, 3]), ([], []), ([5], [5]), ([], []), ([7], [7]), ([6, 8, 4], [6, 8]), ([4, 9], [4, 9]), ([10, 9], [10]), ([11, 11, 0, 1, 2, 3, 4, 5, 6, 7, 8, 9, 10, 11], [11])])
def r39_1_B : List Nat := [0, 1, 0, 4, 15, 0, 32, 0, 128, 511, 1023, 2047, 4095]
theorem r39_1_tab : rtab .any (opsOf Tryz.f39 1) = r39_1_T := by kernel_rfl
theorem r39_1_bits : waitsOk r39_1_T.2 r39_1_B = true := by kernel_rfl
set_option maxHeartbeats 4000000 in
set_option maxRecDepth 100000 in
theorem closure77 (x y : Int × Int) (W : World) : Calls Tryz.prog 39 #[.agg #[.int .i64 x.1, .int .i64 x.2], .agg #[.int .i64 y.1, .int .i64 y.2]] W fun e w' => e = .returned (.int .i64 (cp x y)) ∧ ∃ q os', w' = grow (W.drewN q) os' := by
  obtain ⟨x1, x2⟩ := x
  obtain ⟨y1, y2⟩ := y
  show Calls Tryz.prog 39 #[.agg #[.int .i64 x1, .int .i64 x2], .agg #[.int .i64 y1, .int .i64 y2]] W fun e w' => e = .returned (.int .i64 (orI (cmpI x1 y1) (cmpI x2 y2))) ∧ ∃ q os', w' = grow (W.drewN q) os'
  go_enter Tryz.func39, Tryz.ntmps39
  go_wp2_with fail
  have h1 : Aside0 (((W.alloc (.cells #[.int .i64 x1, .int .i64 x2] 90)).alloc (.cells #[.int .i64 y1, .int .i64 y2] 90)).drew.heap[W.heap.size]? = some (.cells #[.int .i64 x1, .int .i64 x2] 90 (0, 0))) := ⟨blk_alloc (blk_new _ _) _⟩
  have h2' : ((W.alloc (.cells #[.int .i64 x1, .int .i64 x2] 90)).alloc (.cells #[.int .i64 y1, .int .i64 y2] 90)).heap[W.heap.size + 1]? = some (.cells #[.int .i64 y1, .int .i64 y2] 90 (0, 0)) := by simpa using blk_new (W.alloc (.cells #[.int .i64 x1, .int .i64 x2] 90)) (.cells #[.int .i64 y1, .int .i64 y2] 90)
  have h2 : Aside0 (((W.alloc (.cells #[.int .i64 x1, .int .i64 x2] 90)).alloc (.cells #[.int .i64 y1, .int .i64 y2] 90)).drew.heap[W.heap.size + 1]? = some (.cells #[.int .i64 y1, .int .i64 y2] 90 (0, 0))) := ⟨h2'⟩
  clear h2'
  have hW : Aside0 (((W.alloc (.cells #[.int .i64 x1, .int .i64 x2] 90)).alloc (.cells #[.int .i64 y1, .int .i64 y2] 90)).drew = grow (W.drewN 1) #[.cells #[.int .i64 x1, .int .i64 x2] 90, .cells #[.int .i64 y1, .int .i64 y2] 90]) := ⟨by rw [alloc_eq_grow, alloc_eq_grow, grow_grow]; rfl⟩
  generalize ((W.alloc (.cells #[.int .i64 x1, .int .i64 x2] 90)).alloc (.cells #[.int .i64 y1, .int .i64 y2] 90)) = W1 at h1 h2 hW ⊢
  refine start_ (n := 13) (S := fun w' => w'.cell? ⟨W.heap.size, 0, none⟩ = some (.int .i64 x1) ∧ w'.cell? ⟨W.heap.size, 1, none⟩ = some (.int .i64 x2) ∧ w'.cell? ⟨W.heap.size + 1, 0, none⟩ = some (.int .i64 y1) ∧ w'.cell? ⟨W.heap.size + 1, 1, none⟩ = some (.int .i64 y2)) (ds := []) #[false, false, false, false, false, false, false, false, false, false, false, false, false] (by kernel_rfl) rfl rfl ⟨(blk_cell h1.out 0).trans rfl, (blk_cell h1.out 1).trans rfl, (blk_cell h2.out 0).trans rfl, (blk_cell h2.out 1).trans rfl⟩ (fun hHeld => ?_)
  refine with_tabW r39_1_tab r39_1_bits (fun HT_ HW_ => ?_)
  generalize World.drew W1 = W2 at h1 h2 hW hHeld ⊢
  refine pure_ (i := 0) (N := some 5) (v := ?_) (a' := ?_) #[true, false, false, false, false, false, false, false, false, false, false, false, false] rfl rfl (any_of HT_.out (by kernel_rfl)) (fun _ _ _ h => h) (Or.inl ⟨by rfl, ?_⟩) ?_ ?_
  rotate_left
  · intro w'
    go_simp
    with_reducible rfl
  rotate_left
  · simp only [Act.put, List.setIfInBounds_toArray, List.set_cons_zero, List.set_cons_succ, i64_w, i32_w]
    rfl
  refine pure_ (i := 2) (N := some 7) (v := ?_) (a' := ?_) #[true, false, true, false, false, false, false, false, false, false, false, false, false] rfl rfl (any_of HT_.out (by kernel_rfl)) (fun _ _ _ h => h) (Or.inl ⟨by rfl, ?_⟩) ?_ ?_
  rotate_left
  · intro w'
    go_simp
    with_reducible rfl
  rotate_left
  · simp only [Act.put, List.setIfInBounds_toArray, List.set_cons_zero, List.set_cons_succ, i64_w, i32_w]
    rfl
  refine pure_ (i := 5) (N := some 10) (v := ?_) (a' := ?_) #[true, false, true, false, false, true, false, false, false, false, false, false, false] rfl rfl (any_of HT_.out (by kernel_rfl)) (fun _ _ _ h => h) (Or.inl ⟨by rfl, ?_⟩) ?_ ?_
  rotate_left
  · intro w'
    go_simp
    with_reducible rfl
  rotate_left
  · simp only [Act.put, List.setIfInBounds_toArray, List.set_cons_zero, List.set_cons_succ, i64_w, i32_w]
    rfl
  refine pure_ (i := 7) (N := some 12) (v := ?_) (a' := ?_) #[true, false, true, false, false, true, false, true, false, false, false, false, false] rfl rfl (any_of HT_.out (by kernel_rfl)) (fun _ _ _ h => h) (Or.inl ⟨by rfl, ?_⟩) ?_ ?_
  rotate_left
  · intro w'
    go_simp
    with_reducible rfl
  rotate_left
  · simp only [Act.put, List.setIfInBounds_toArray, List.set_cons_zero, List.set_cons_succ, i64_w, i32_w]
    rfl
  refine take_ (i := 1) (N := some 6) (v := ?_) (a' := ?_) #[true, true, true, false, false, true, false, true, false, false, false, false, false] rfl rfl (take_ofW HT_.out HW_.out (by kernel_rfl)) (fun _ _ _ h => h) (Or.inl ⟨by rfl, ?_⟩) hHeld ?_ ?_
  rotate_left
  · rintro w' ⟨s0, s1, s2, s3⟩
    go_simp
    with_reducible rfl
  rotate_left
  · simp only [Act.put, List.setIfInBounds_toArray, List.set_cons_zero, List.set_cons_succ, i64_w, i32_w]
    rfl
  refine take_ (i := 3) (N := some 8) (v := ?_) (a' := ?_) #[true, true, true, true, false, true, false, true, false, false, false, false, false] rfl rfl (take_ofW HT_.out HW_.out (by kernel_rfl)) (fun _ _ _ h => h) (Or.inl ⟨by rfl, ?_⟩) hHeld ?_ ?_
  rotate_left
  · rintro w' ⟨s0, s1, s2, s3⟩
    go_simp
    with_reducible rfl
  rotate_left
  · simp only [Act.put, List.setIfInBounds_toArray, List.set_cons_zero, List.set_cons_succ, i64_w, i32_w]
    rfl
  refine take_ (i := 6) (N := some 11) (v := ?_) (a' := ?_) #[true, true, true, true, false, true, true, true, false, false, false, false, false] rfl rfl (take_ofW HT_.out HW_.out (by kernel_rfl)) (fun _ _ _ h => h) (Or.inl ⟨by rfl, ?_⟩) hHeld ?_ ?_
  rotate_left
  · rintro w' ⟨s0, s1, s2, s3⟩
    go_simp
    with_reducible rfl
  rotate_left
  · simp only [Act.put, List.setIfInBounds_toArray, List.set_cons_zero, List.set_cons_succ, i64_w, i32_w]
    rfl
  refine take_ (i := 8) (N := some 13) (v := ?_) (a' := ?_) #[true, true, true, true, false, true, true, true, true, false, false, false, false] rfl rfl (take_ofW HT_.out HW_.out (by kernel_rfl)) (fun _ _ _ h => h) (Or.inl ⟨by rfl, ?_⟩) hHeld ?_ ?_
  rotate_left
  · rintro w' ⟨s0, s1, s2, s3⟩
    go_simp
    with_reducible rfl
  rotate_left
  · simp only [Act.put, List.setIfInBounds_toArray, List.set_cons_zero, List.set_cons_succ, i64_w, i32_w]
    rfl
  refine one_ (i := 4) (N := some 9) #[true, true, true, true, true, true, true, true, true, false, false, false, false] rfl rfl (one_of HT_.out (by kernel_rfl)) (by decide) (fun K hK => ?_)
  refine goes_ Tryz.func41 (by kernel_rfl) rfl #[.int .i64 x1, .int .i64 y1] (by rfl) rfl rfl (by (try simp only [List.map_toArray, List.map_cons, List.map_nil]); first | done | rfl) ?_
  refine (cmpInt x1 y1 W2).mono ?_
  rintro e w3 ⟨rfl, rfl⟩
  refine ⟨_, rfl, ?_⟩
  refine hK.out _ _ ⟨(blk_cell h1.out 0).trans rfl, (blk_cell h1.out 1).trans rfl, (blk_cell h2.out 0).trans rfl, (blk_cell h2.out 1).trans rfl⟩ (fun hHeld => ?_)
  clear hK K
  refine norm_ (a' := ?_) ?_ ?_
  rotate_left
  · show Act.put _ (some 9) _ = _
    simp only [Act.put, List.setIfInBounds_toArray, List.set_cons_zero, List.set_cons_succ, i64_w, i32_w]
    rfl
  refine one_ (i := 9) (N := some 14) #[true, true, true, true, true, true, true, true, true, true, false, false, false] rfl rfl (one_of HT_.out (by kernel_rfl)) (by decide) (fun K hK => ?_)
  refine goes_ Tryz.func41 (by kernel_rfl) rfl #[.int .i64 x2, .int .i64 y2] (by rfl) rfl rfl (by (try simp only [List.map_toArray, List.map_cons, List.map_nil]); first | done | rfl) ?_
  refine (cmpInt x2 y2 _).mono ?_
  rintro e w4 ⟨rfl, rfl⟩
  refine ⟨_, rfl, ?_⟩
  refine hK.out _ _ ⟨(blk_cell h1.out 0).trans rfl, (blk_cell h1.out 1).trans rfl, (blk_cell h2.out 0).trans rfl, (blk_cell h2.out 1).trans rfl⟩ (fun hHeld => ?_)
  clear hK K
  refine norm_ (a' := ?_) ?_ ?_
  rotate_left
  · show Act.put _ (some 14) _ = _
    simp only [Act.put, List.setIfInBounds_toArray, List.set_cons_zero, List.set_cons_succ, i64_w, i32_w]
    rfl
  refine one_ (i := 10) (N := some 15) #[true, true, true, true, true, true, true, true, true, true, true, false, false] rfl rfl (one_of HT_.out (by kernel_rfl)) (by decide) (fun K hK => ?_)
  refine value_ (w1 := ?_) (v := ?_) (by rfl) rfl ?_ ?_
  rotate_left 2
  · go_simp
    constructor
    · rfl
    · rfl
  refine hK.out _ _ ⟨(blk_cell (blk_alloc h1.out _) 0).trans rfl, (blk_cell (blk_alloc h1.out _) 1).trans rfl, (blk_cell (blk_alloc h2.out _) 0).trans rfl, (blk_cell (blk_alloc h2.out _) 1).trans rfl⟩ (fun hHeld => ?_)
  clear hK K
  refine norm_ (a' := ?_) ?_ ?_
  rotate_left
  · show Act.put _ (some 15) _ = _
    simp only [Act.put, List.setIfInBounds_toArray, List.set_cons_zero, List.set_cons_succ, i64_w, i32_w]
    rfl
  refine one_ (i := 11) (N := some 16) #[true, true, true, true, true, true, true, true, true, true, true, true, false] rfl rfl (one_of HT_.out (by kernel_rfl)) (by decide) (fun K hK => ?_)
  refine goes_ Tryz.func40 (by kernel_rfl) rfl #[.slice (some ⟨w4.heap.size, 0, none⟩) 2 2] (by rfl) rfl rfl (by (try simp only [List.map_toArray, List.map_cons, List.map_nil]); first | done | rfl) ?_
  refine (or2 (cmpI x1 y1) (cmpI x2 y2) w4.heap.size _ ((blk_cell (blk_new _ _) 0).trans rfl) ((blk_cell (blk_new _ _) 1).trans rfl)).mono ?_
  rintro e w5 ⟨rfl, rfl⟩
  refine ⟨_, rfl, ?_⟩
  refine hK.out _ _ ⟨(blk_cell (blk_alloc h1.out _) 0).trans rfl, (blk_cell (blk_alloc h1.out _) 1).trans rfl, (blk_cell (blk_alloc h2.out _) 0).trans rfl, (blk_cell (blk_alloc h2.out _) 1).trans rfl⟩ (fun hHeld => ?_)
  clear hK K
  refine norm_ (a' := ?_) ?_ ?_
  rotate_left
  · show Act.put _ (some 16) _ = _
    simp only [Act.put, List.setIfInBounds_toArray, List.set_cons_zero, List.set_cons_succ, i64_w, i32_w]
    rfl
  refine pure_ (i := 12) (N := some 4) (v := ?_) (a' := ?_) #[true, true, true, true, true, true, true, true, true, true, true, true, true] rfl rfl (any_of HT_.out (by kernel_rfl)) (fun _ _ _ h => h) (Or.inl ⟨by rfl, ?_⟩) ?_ ?_
  rotate_left
  · intro w'
    go_simp
    with_reducible rfl
  rotate_left
  · simp only [Act.put, List.setIfInBounds_toArray, List.set_cons_zero, List.set_cons_succ, i64_w, i32_w]
    rfl
  refine done_ (done_of HT_.out (by kernel_rfl)) ?_
  go_wp2_with fail
  go_ret
  exact ⟨rfl, 1, _, by rw [hW.out, alloc_eq_grow, grow_grow]⟩
theorem sized_ep : ∀ x, (ep x).length = 2 := fun _ => rfl
theorem holds_row {W : World} {base g n c : Nat} {ok : Nat → Prop} {ps : List (Int × Int)} (h : Kd.R pk 90 W base ok (.slice (some ⟨g, 0, none⟩) n c) ps) (hn : n = ps.length) : HoldsK ep 2 W g 0 ps.toArray := by
  intro t ht
  rw [size_flatK] at ht
  have ht2 : t < ps.length * 2 := by simpa using ht
  have hq : t / 2 < ps.length := by omega
  obtain ⟨cs, hl, hM, hc, hf⟩ := Kd.R_elem h (0, 0) ((t / 2 : Nat) : Int) (by omega) (by omega)
  rw [Int.toNat_natCast] at hM hc hf
  have hsz : pk.sz = 2 := rfl
  rw [hsz] at hc hf
  have e1 : ps.getD (t / 2) (0, 0) = ps.toArray[t / 2]! := by
    simp [List.getD_eq_getElem?_getD, hq, getElem!_def]
  have e2 : cs = ep (ps.toArray[t / 2]!) := by
    rw [← e1]
    generalize ps.getD (t / 2) (0, 0) = p at hM
    obtain ⟨c1, c2, rfl, h1, h2⟩ := hM
    have h1 : c1 = [.int .i64 p.1] := h1
    have h2 : c2 = [.int .i64 p.2] := h2
    rw [h1, h2]
    rfl
  have e3 : t / 2 * 2 + t % 2 = t := by omega
  have h3 := hc (t % 2) ((ep (ps.toArray[t / 2]!))[t % 2]!) (by
    rw [e2]
    have : t % 2 < (ep (ps.toArray[t / 2]!)).length := by rw [sized_ep]; omega
    rw [List.getElem?_eq_getElem this, List.getElem!_eq_getElem?_getD, List.getElem?_eq_getElem this]
    rfl)
  have h4 := hf (t % 2)
  rw [e3] at h3 h4
  rw [get_flatK _ _ _ _ ht, Nat.zero_add]
  exact ⟨h3, h4⟩
theorem grown_sorted {enc : Int × Int → List Value} {W : World} {g k n : Nat} {os : Array Obj} (d : Array (Int × Int)) : W.grownBy (sortWorldK enc k W g 0 n d os) (some g) := by
  unfold sortWorldK putRowK
  refine ⟨rfl, rfl, rfl, by simp, fun i hi hne => ?_⟩
  rw [heap_grow_old _ _ (by simpa using hi)]
  have : g ≠ i := fun e => hne (by rw [e])
  simp [putRow, mapBlock, Sort.ahead, Array.getElem?_modify, this]
theorem heap_sorted {enc : Int × Int → List Value} {W : World} {g k n : Nat} {os : Array Obj} {cur : Array Value} {t : TypeId} (d : Array (Int × Int)) (hb : W.heap[g]? = some (.cells cur t (0, 0))) : ∃ cur', (sortWorldK enc k W g 0 n d os).heap[g]? = some (.cells cur' t (0, 0)) := by
  have hg : g < W.heap.size := blk_lt hb
  unfold sortWorldK putRowK
  refine ⟨putCells id 0 (flatK enc k d) cur, ?_⟩
  rw [heap_grow_old _ _ (by simpa using hg)]
  simp [putRow, mapBlock, Sort.ahead, Array.getElem?_modify, hb, onCells]
/-- The places that a slice holds, as cells of its block. -/
def Row2 (w : World) (v : Value) (qs : List (Int × Int)) : Prop :=
  ∃ A c, v = .slice A qs.length c ∧ (0 < qs.length → ∃ g cells, A = some ⟨g, 0, none⟩ ∧ w.heap[g]? = some (.cells cells 90 (0, 0)) ∧ ∀ j p, qs[j]? = some p → cells[j * 2]? = some (.int .i64 p.1) ∧ cells[j * 2 + 1]? = some (.int .i64 p.2))
theorem Row2.below {w w1 : World} {v : Value} {qs : List (Int × Int)} (h : Row2 w v qs) (hb : Below w.heap.size w w1) : Row2 w1 v qs := by
  obtain ⟨A, c, e, h⟩ := h
  refine ⟨A, c, e, fun h0 => ?_⟩
  obtain ⟨g, cells, e1, h1, h2⟩ := h h0
  exact ⟨g, cells, e1, blk_below h1 hb, h2⟩
theorem Row2.grown {w w1 : World} {v : Value} {qs : List (Int × Int)} (h : Row2 w v qs) {k : Nat} {t : TypeId} {cs : Array Value} (hg : w.grownBy w1 (some k)) (hk : w.heap[k]? = some (.cells cs t (0, 0))) (ht : t ≠ 90) : Row2 w1 v qs := by
  obtain ⟨A, c, e, h⟩ := h
  refine ⟨A, c, e, fun h0 => ?_⟩
  obtain ⟨g, cells, e1, h1, h2⟩ := h h0
  exact ⟨g, cells, e1, blk_grown h1 hg (fun e => blk_ne h1 hk (Ne.symm ht) (by injection e)), h2⟩
theorem sort_calls (W : World) (base : Nat) (ok : Nat → Prop) (v : Value) (ps : List (Int × Int)) (hR : Kd.R pk 90 W base ok v ps) (hlen : ps.length < 4611686018427387904) :
    Calls Tryz.prog 38 #[v, .func (.func 39) #[] #[]] W fun e w' => e = .returned (.tuple #[]) ∧ W.grownBy w' v.ownBlock ∧ ∃ qs, qs.Perm ps ∧ Row2 w' v qs := by
  rcases Nat.eq_zero_or_pos ps.length with h0 | h0
  · obtain ⟨A, c, rfl⟩ := Kd.R_slice hR
    have hps : ps = [] := List.eq_nil_of_length_eq_zero h0
    subst hps
    refine (AnyF.slices_SortFunc_none { Tryz.bookSort with } A c (.func (.func 39) #[] #[]) W).mono ?_
    rintro e w' ⟨rfl, rfl⟩
    exact ⟨rfl, ⟨rfl, rfl, rfl, Nat.le_refl _, fun _ _ _ => rfl⟩, [], .nil, A, c, rfl, fun h => absurd h (Nat.lt_irrefl 0)⟩
  · obtain ⟨g, c, rfl, _, hlt, cur, hcur⟩ := Kd.R_form hR h0
    have hH := holds_row hR rfl
    have e53 : ∀ args w, (callFunc 39 args).run Tryz.prog w = .ok (.enter 39 args) w := enters_of Tryz.func39 (by kernel_rfl) rfl
    have hcmp : CmpLays Tryz.prog 39 #[] ep 2 cp g 0 ps.toArray.size W := fun _ _ _ _ x y => closure77 x y _
    have hcon := AnyQ.slices_SortFunc Tryz.bookSort 2 Tryz.isAgg90 Tryz.sizeOf90 ep sized_ep (fun x v hv => by simp [ep] at hv; rcases hv with rfl | rfl <;> rfl) cp swo_cp 39 #[] g 0 c ps.toArray W e53 hcmp hH hlt (by simpa using hlen)
    have hsz : ps.toArray.size = ps.length := by simp
    rw [hsz] at hcon
    refine hcon.mono ?_
    rintro e w' ⟨rfl, d', n, os, hp, _, rfl⟩
    have hd : d'.size = ps.length := hp.1.trans hsz
    have hH2 := holdsK_sortWorldK_c ep 2 W g 0 ps.toArray d' n os hH hlt (hd.trans hsz.symm)
    obtain ⟨cur', hcur'⟩ := heap_sorted (enc := ep) (k := 2) (n := n) (os := os) d' hcur
    refine ⟨rfl, grown_sorted d', d'.toList, ?_, some ⟨g, 0, none⟩, c, by rw [show d'.toList.length = ps.length from (Array.length_toList ..).trans hd], fun _ => ⟨g, cur', rfl, hcur', fun j p hj => ?_⟩⟩
    · have h1 := hp.2.2
      have ex : ∀ (e : Array (Int × Int)), e.size = ps.length → (e.extract 0 ps.length).toList = e.toList := fun e he => by
        rw [← he, Array.extract_size]
      rw [ex _ hd, ex _ hsz] at h1
      simpa using h1
    · have hj2 : j < d'.size := by
        have := (List.getElem?_eq_some_iff.1 hj).1
        simpa using this
      have e1 : d'[j]! = p := by
        rw [Array.getElem?_toList] at hj
        simp [getElem!_def, hj]
      have h1 := (hH2.cell (i := j) (c := 0) hj2 (by omega)).1
      have h2 := (hH2.cell (i := j) (c := 1) hj2 (by omega)).1
      rw [e1] at h1 h2
      simp only [Nat.zero_add, Nat.add_zero] at h1 h2
      rw [blk_cell hcur'] at h1 h2
      exact ⟨h1, h2⟩
end Go.Proofs.YtjeaojolhdfpeaaGreat.BookQ
