/- ProfileAt, for every profile and every place: profile.At answers as the reference does, and what was handed in is as it was. No condition. -/
import Derived.Test.YtjeaojolhdfpeaaKept
import Derived.Test.YtjeaojolhdfpeaaPProfileAtx2
import Derived.Test.YtjeaojolhdfpeaaOpen
import Derived.Test.YtjeaojolhdfpeaaRows
namespace Go.Proofs.Ytjeaojolhdfpeaa.AtLaw
open Go.RowKit Go.WideShapes Go.ChangeShapes Go.ChangeAt
open Go.Proofs.YtjeaojolhdfpeaaW.PrintWords Go.Proofs.YtjeaojolhdfpeaaW.PrintLast Go.Proofs.YtjeaojolhdfpeaaW.PrintMore
open Go.Proofs.Ytjeaojolhdfpeaa.PProfileAt Go.Proofs.Ytjeaojolhdfpeaa.Lent Go.Proofs.Ytjeaojolhdfpeaa.Open
set_option linter.unusedVariables false
set_option linter.unusedSimpArgs false

/-- The spot at a place, as four numbers. -/
def atS (l : List (List S28)) (fn pc : Int) : S28 := if fn < 0 ∨ fn ≥ (l.length : Int) ∨ pc < 0 ∨ pc ≥ ((rd_L3 l fn).length : Int) then z28 else rd_T28 (rd_L3 l fn) pc
theorem at_some (l : List (List S28)) (fn pc : Int) : profile_At.f l fn pc = some ((atS l fn pc).f0, (atS l fn pc).f1, (atS l fn pc).f2, (atS l fn pc).f3) := by
  unfold profile_At.f atS
  by_cases h1 : fn < 0
  · rw [if_pos h1, if_pos (.inl h1)]; rfl
  rw [if_neg h1]
  by_cases h2 : fn ≥ (l.length : Int)
  · rw [if_pos h2, if_pos (.inr (.inl h2))]; rfl
  rw [if_neg h2]
  by_cases h3 : pc < 0
  · rw [if_pos h3, if_pos (.inr (.inr (.inl h3)))]; rfl
  rw [if_neg h3, if_pos (by omega), if_pos (by omega)]
  by_cases h4 : pc ≥ ((rd_L3 l fn).length : Int)
  · rw [if_pos h4, if_pos (.inr (.inr (.inr h4)))]; rfl
  rw [if_neg h4, if_pos (by omega), if_pos (by omega), if_neg (by omega)]
theorem ref_some (l : List (List S28)) (fn pc : Int) : portageref18_At.f l fn pc = some ((atS l fn pc).f0, (atS l fn pc).f1, (atS l fn pc).f2, (atS l fn pc).f3) := at_some l fn pc

attribute [local go_sem high] eqA28
def r3_2_T : Bool × List (List Nat × List Nat) := (true, [([], []), ([], []), ([], []), ([0, 1, 2], [0, 1, 2]), ([], []), ([], []), ([], []), ([4, 5, 6, 3], [4, 5, 6]), ([3, 7], [3, 7]), ([8, 7], [8]), ([9], [9]), ([9], [9]), ([10, 11, 9, 9], [9, 10, 11]), ([9, 12], [9, 12]), ([13, 12, 0, 1, 2, 3, 4, 5, 6, 7, 8, 9, 10, 11, 12, 13], [13])])
def r3_2_B : List Nat := [0, 0, 0, 7, 0, 0, 0, 127, 255, 511, 1023, 1023, 4095, 8191, 16383]
theorem r3_2_tab : rtab .any (opsOf Try.f3 2) = r3_2_T := by kernel_rfl
theorem r3_2_bits : waitsOk r3_2_T.2 r3_2_B = true := by kernel_rfl
set_option maxHeartbeats 4000000 in
set_option maxRecDepth 100000 in
theorem law (A : Option Addr) (c : Nat) (l : List (List S28)) (fn pc : Int) (w : World) (hr : Kd.C (Kd.slice 28 k28) w A l.length l) (hc : l.length ≤ c) (hl : l.length * 24 ≤ 140737488351232) (hin : ∀ x ∈ l, x.length * 24 ≤ 140737488351232) :
    Calls Try.prog 3 #[.agg #[.slice A l.length c], .int .i64 fn, .int .i64 pc] w fun e w' => e = .returned (.bool true) ∧ Below w.heap.size w w' := by
  have HA := Aside0.mk (at_some l fn pc)
  have HE := Aside0.mk (ref_some l fn pc)
  obtain ⟨r, hr0⟩ : ∃ r, r = atS l fn pc := ⟨_, rfl⟩
  rw [← hr0] at HA HE
  clear hr0
  have HR := Aside0.mk hr
  have HI := Aside0.mk hin
  clear hr hin
  have HB := Aside0.mk (below_alloc (Below.refl w.heap.size w) (.cells #[.slice A l.length c] 24))
  have B1 : Aside0 ((w.alloc (.cells #[.slice A l.length c] 24)).heap[w.heap.size]? = some (.cells #[.slice A l.length c] 24 (0, 0))) := ⟨blk_new _ _⟩
  go_enter Try.func3, Try.ntmps3
  go_wp2_with fail
  generalize w.alloc (.cells #[.slice A l.length c] 24) = W0 at HB B1 ⊢
  refine (lent_calls A c l _ (Kd.C_below HR.out HB.out) hl HI.out).mono ?_
  rintro e w1 ⟨v, rfl, ho, hb⟩
  obtain ⟨Ag, cg, rfl, hcg, hg⟩ := Kd.R_reads ho
  replace HB := Aside0.mk (below_step HB.out hb)
  replace B1 := Aside0.mk (blk_below B1.out hb)
  have HG := Aside0.mk hg
  have HC := Aside0.mk hcg
  clear ho hb hg hcg
  go_wp2_with fail
  have HB2 := Aside0.mk (below_alloc HB.out (.cells #[.slice Ag l.length cg] 24))
  have B2 : Aside0 ((w1.alloc (.cells #[.slice Ag l.length cg] 24)).heap[w.heap.size]? = some (.cells #[.slice A l.length c] 24 (0, 0))) := ⟨blk_alloc B1.out _⟩
  have B3 : Aside0 ((w1.alloc (.cells #[.slice Ag l.length cg] 24)).heap[w1.heap.size]? = some (.cells #[.slice Ag l.length cg] 24 (0, 0))) := ⟨blk_new _ _⟩
  replace HG := Aside0.mk (Kd.C_alloc HG.out (.cells #[.slice Ag l.length cg] 24))
  clear HB B1
  generalize w1.alloc (.cells #[.slice Ag l.length cg] 24) = W1 at HB2 B2 B3 HG ⊢
  generalize w1.heap.size = g2 at B3 ⊢
  replace HB2 := Aside0.mk (below_drew HB2.out)
  replace B2 := Aside0.mk (blk_drew B2.out)
  replace B3 := Aside0.mk (blk_drew B3.out)
  replace HG := Aside0.mk (Kd.C_drew HG.out)
  refine start_ (n := 15) (S := fun w' => w'.cell? ⟨g2, 0, none⟩ = some (.slice Ag l.length cg) ∧ w'.cell? ⟨w.heap.size, 0, none⟩ = some (.slice A l.length c)) (ds := []) #[false, false, false, false, false, false, false, false, false, false, false, false, false, false, false] (by kernel_rfl) rfl rfl ⟨(blk_cell B3.out 0).trans rfl, (blk_cell B2.out 0).trans rfl⟩ (fun hHeld => ?_)
  refine with_tabW r3_2_tab r3_2_bits (fun HT_ HW_ => ?_)
  generalize World.drew W1 = W2 at HB2 B2 B3 HG hHeld ⊢
  refine pure_ (i := 1) (N := some 11) (v := ?_) (a' := ?_) #[false, true, false, false, false, false, false, false, false, false, false, false, false, false, false] rfl rfl (any_of HT_.out (by kernel_rfl)) (fun _ _ _ h => h) (Or.inl ⟨by rfl, ?_⟩) ?_ ?_
  rotate_left
  · intro w'
    go_simp
    with_reducible rfl
  rotate_left
  · simp only [Act.put, List.setIfInBounds_toArray, List.set_cons_zero, List.set_cons_succ, i64_w, i32_w]
    rfl
  refine pure_ (i := 2) (N := some 12) (v := ?_) (a' := ?_) #[false, true, true, false, false, false, false, false, false, false, false, false, false, false, false] rfl rfl (any_of HT_.out (by kernel_rfl)) (fun _ _ _ h => h) (Or.inl ⟨by rfl, ?_⟩) ?_ ?_
  rotate_left
  · intro w'
    go_simp
    with_reducible rfl
  rotate_left
  · simp only [Act.put, List.setIfInBounds_toArray, List.set_cons_zero, List.set_cons_succ, i64_w, i32_w]
    rfl
  refine pure_ (i := 5) (N := some 15) (v := ?_) (a' := ?_) #[false, true, true, false, false, true, false, false, false, false, false, false, false, false, false] rfl rfl (any_of HT_.out (by kernel_rfl)) (fun _ _ _ h => h) (Or.inl ⟨by rfl, ?_⟩) ?_ ?_
  rotate_left
  · intro w'
    go_simp
    with_reducible rfl
  rotate_left
  · simp only [Act.put, List.setIfInBounds_toArray, List.set_cons_zero, List.set_cons_succ, i64_w, i32_w]
    rfl
  refine pure_ (i := 6) (N := some 16) (v := ?_) (a' := ?_) #[false, true, true, false, false, true, true, false, false, false, false, false, false, false, false] rfl rfl (any_of HT_.out (by kernel_rfl)) (fun _ _ _ h => h) (Or.inl ⟨by rfl, ?_⟩) ?_ ?_
  rotate_left
  · intro w'
    go_simp
    with_reducible rfl
  rotate_left
  · simp only [Act.put, List.setIfInBounds_toArray, List.set_cons_zero, List.set_cons_succ, i64_w, i32_w]
    rfl
  refine take_ (i := 0) (N := some 10) (v := ?_) (a' := ?_) #[true, true, true, false, false, true, true, false, false, false, false, false, false, false, false] rfl rfl (take_ofW HT_.out HW_.out (by kernel_rfl)) (fun _ _ _ h => h) (Or.inl ⟨by rfl, ?_⟩) hHeld ?_ ?_
  rotate_left
  · rintro w' ⟨s0, s1⟩
    go_simp
    with_reducible rfl
  rotate_left
  · simp only [Act.put, List.setIfInBounds_toArray, List.set_cons_zero, List.set_cons_succ, i64_w, i32_w]
    rfl
  refine take_ (i := 4) (N := some 14) (v := ?_) (a' := ?_) #[true, true, true, false, true, true, true, false, false, false, false, false, false, false, false] rfl rfl (take_ofW HT_.out HW_.out (by kernel_rfl)) (fun _ _ _ h => h) (Or.inl ⟨by rfl, ?_⟩) hHeld ?_ ?_
  rotate_left
  · rintro w' ⟨s0, s1⟩
    go_simp
    with_reducible rfl
  rotate_left
  · simp only [Act.put, List.setIfInBounds_toArray, List.set_cons_zero, List.set_cons_succ, i64_w, i32_w]
    rfl
  refine one_ (i := 3) (N := some 13) #[true, true, true, true, true, true, true, false, false, false, false, false, false, false, false] rfl rfl (one_of HT_.out (by kernel_rfl)) (by decide) (fun K hK => ?_)
  refine goes_ Try.func12 (by kernel_rfl) rfl #[.agg #[.slice Ag l.length cg], .int .i64 fn, .int .i64 pc] (by rfl) rfl rfl (by (try simp only [List.map_toArray, List.map_cons, List.map_nil]); first | done | rfl) ?_
  refine (profile_At.calls Ag cg l fn pc _ _ _ _ _ (kx_C HG.out) HC.out HA.out).mono ?_
  rintro e w2 ⟨rfl, hb⟩
  refine ⟨_, rfl, ?_⟩
  replace HB2 := Aside0.mk (below_step HB2.out hb)
  replace B2 := Aside0.mk (blk_below B2.out hb)
  replace B3 := Aside0.mk (blk_below B3.out hb)
  replace HG := Aside0.mk (Kd.C_below HG.out hb)
  clear hb
  refine hK.out _ _ ⟨(blk_cell B3.out 0).trans rfl, (blk_cell B2.out 0).trans rfl⟩ (fun hHeld => ?_)
  clear hK K
  refine norm_ (a' := ?_) ?_ ?_
  rotate_left
  · show Act.put _ (some 13) _ = _
    simp only [Act.put, List.setIfInBounds_toArray, List.set_cons_zero, List.set_cons_succ, i64_w, i32_w]
    rfl
  refine one_ (i := 7) (N := some 17) #[true, true, true, true, true, true, true, true, false, false, false, false, false, false, false] rfl rfl (one_of HT_.out (by kernel_rfl)) (by decide) (fun K hK => ?_)
  refine goes_ Try.func13 (by kernel_rfl) rfl #[.agg #[.slice A l.length c], .int .i64 fn, .int .i64 pc] (by rfl) rfl rfl (by (try simp only [List.map_toArray, List.map_cons, List.map_nil]); first | done | rfl) ?_
  refine (portageref18_At.calls A c l fn pc _ _ _ _ _ (Kd.C_below HR.out HB2.out) hc HE.out).mono ?_
  rintro e w3 ⟨rfl, hb⟩
  refine ⟨_, rfl, ?_⟩
  replace HB2 := Aside0.mk (below_step HB2.out hb)
  replace B2 := Aside0.mk (blk_below B2.out hb)
  replace B3 := Aside0.mk (blk_below B3.out hb)
  replace HG := Aside0.mk (Kd.C_below HG.out hb)
  clear hb
  refine hK.out _ _ ⟨(blk_cell B3.out 0).trans rfl, (blk_cell B2.out 0).trans rfl⟩ (fun hHeld => ?_)
  clear hK K
  refine norm_ (a' := ?_) ?_ ?_
  rotate_left
  · show Act.put _ (some 17) _ = _
    simp only [Act.put, List.setIfInBounds_toArray, List.set_cons_zero, List.set_cons_succ, i64_w, i32_w]
    rfl
  refine pure_ (i := 8) (N := some 18) (v := ?_) (a' := ?_) #[true, true, true, true, true, true, true, true, true, false, false, false, false, false, false] rfl rfl (any_of HT_.out (by kernel_rfl)) (fun _ _ _ h => h) (Or.inl ⟨by rfl, ?_⟩) ?_ ?_
  rotate_left
  · intro w'
    go_simp
    with_reducible rfl
  rotate_left
  · simp only [Act.put, List.setIfInBounds_toArray, List.set_cons_zero, List.set_cons_succ, i64_w, i32_w]
    rfl
  refine pure_ (i := 9) (N := some 19) (v := ?_) (a' := ?_) #[true, true, true, true, true, true, true, true, true, true, false, false, false, false, false] rfl rfl (any_of HT_.out (by kernel_rfl)) (fun _ _ _ h => h) (Or.inl ⟨by rfl, ?_⟩) ?_ ?_
  rotate_left
  · intro w'
    go_simp
    with_reducible rfl
  rotate_left
  · simp only [Act.put, List.setIfInBounds_toArray, List.set_cons_zero, List.set_cons_succ, i64_w, i32_w]
    rfl
  refine take_ (i := 10) (N := some 20) (v := ?_) (a' := ?_) #[true, true, true, true, true, true, true, true, true, true, true, false, false, false, false] rfl rfl (take_ofW HT_.out HW_.out (by kernel_rfl)) (fun _ _ _ h => h) (Or.inl ⟨by rfl, ?_⟩) hHeld ?_ ?_
  rotate_left
  · rintro w' ⟨s0, s1⟩
    go_simp
    with_reducible rfl
  rotate_left
  · simp only [Act.put, List.setIfInBounds_toArray, List.set_cons_zero, List.set_cons_succ, i64_w, i32_w]
    rfl
  refine take_ (i := 11) (N := some 21) (v := ?_) (a' := ?_) #[true, true, true, true, true, true, true, true, true, true, true, true, false, false, false] rfl rfl (take_ofW HT_.out HW_.out (by kernel_rfl)) (fun _ _ _ h => h) (Or.inl ⟨by rfl, ?_⟩) hHeld ?_ ?_
  rotate_left
  · rintro w' ⟨s0, s1⟩
    go_simp
    with_reducible rfl
  rotate_left
  · simp only [Act.put, List.setIfInBounds_toArray, List.set_cons_zero, List.set_cons_succ, i64_w, i32_w]
    rfl
  refine one_ (i := 12) (N := some 22) #[true, true, true, true, true, true, true, true, true, true, true, true, true, false, false] rfl rfl (one_of HT_.out (by kernel_rfl)) (by decide) (fun K hK => ?_)
  refine goes_ Try.func14 (by kernel_rfl) rfl #[.agg #[.slice Ag l.length cg], .agg #[.slice A l.length c]] (by rfl) rfl rfl (by (try simp only [List.map_toArray, List.map_cons, List.map_nil]); first | done | rfl) ?_
  refine (kept_calls Ag A cg c l _ HG.out HC.out (Kd.C_below HR.out HB2.out) hc hl HI.out).mono ?_
  rintro e w4 ⟨rfl, hb⟩
  refine ⟨_, rfl, ?_⟩
  replace HB2 := Aside0.mk (below_step HB2.out hb)
  replace B2 := Aside0.mk (blk_below B2.out hb)
  replace B3 := Aside0.mk (blk_below B3.out hb)
  clear hb
  refine hK.out _ _ ⟨(blk_cell B3.out 0).trans rfl, (blk_cell B2.out 0).trans rfl⟩ (fun hHeld => ?_)
  clear hK K
  refine norm_ (a' := ?_) ?_ ?_
  rotate_left
  · show Act.put _ (some 22) _ = _
    simp only [Act.put, List.setIfInBounds_toArray, List.set_cons_zero, List.set_cons_succ, i64_w, i32_w]
    rfl
  refine pure_ (i := 13) (N := some 23) (v := ?_) (a' := ?_) #[true, true, true, true, true, true, true, true, true, true, true, true, true, true, false] rfl rfl (any_of HT_.out (by kernel_rfl)) (fun _ _ _ h => h) (Or.inl ⟨by rfl, ?_⟩) ?_ ?_
  rotate_left
  · intro w'
    go_simp
    with_reducible rfl
  rotate_left
  · simp only [Act.put, List.setIfInBounds_toArray, List.set_cons_zero, List.set_cons_succ, i64_w, i32_w]
    rfl
  refine pure_ (i := 14) (N := some 6) (v := ?_) (a' := ?_) #[true, true, true, true, true, true, true, true, true, true, true, true, true, true, true] rfl rfl (any_of HT_.out (by kernel_rfl)) (fun _ _ _ h => h) (Or.inl ⟨by rfl, ?_⟩) ?_ ?_
  rotate_left
  · intro w'
    go_simp
    with_reducible rfl
  rotate_left
  · simp only [Act.put, List.setIfInBounds_toArray, List.set_cons_zero, List.set_cons_succ, i64_w, i32_w]
    rfl
  refine done_ (done_of HT_.out (by kernel_rfl)) ?_
  go_wp2
  go_ret
  exact ⟨rfl, HB2.out⟩
end Go.Proofs.Ytjeaojolhdfpeaa.AtLaw
