/- Profile's book: LentValues' answer, and KeptValues of what is as it was lent. -/
import Derived.Test.YtjeaojolhdfpeaaGreatBookO
import Derived.Deep.DeepCutAuto
namespace Go.Proofs.YtjeaojolhdfpeaaGreat.BookV
open Go.RowKit Go.Proofs.YtjeaojolhdfpeaaGreatW.PrintWords Go.Proofs.YtjeaojolhdfpeaaGreatW.PrintLast Go.Proofs.YtjeaojolhdfpeaaGreatW.PrintMore
open Go.Proofs.YtjeaojolhdfpeaaGreat.PProfileCut Go.Proofs.YtjeaojolhdfpeaaGreat.BookO
set_option linter.unusedVariables false
set_option linter.unusedSimpArgs false
attribute [local go_sem high] eqA48

def vmark (i : Nat) : S48 := ⟨-9, (i : Int)⟩
def vmarks (n : Nat) : List S48 := (List.range n).map vmark
theorem vmarks_succ (n : Nat) : vmarks (n + 1) = vmarks n ++ [vmark n] := by simp [vmarks, List.range_succ]
theorem vmarks_length (n : Nat) : (vmarks n).length = n := by simp [vmarks]
theorem lentv_l1 (l : List S48) (hl : l.length < 4398046511104) (d : Nat) : ∀ m : Nat, m ≤ 64 → 64 - m = d → Ev (fun k => portagekit_LentValues.l1 k (l ++ vmarks m) (m : Int)) (l ++ vmarks 64) := by
  induction d with
  | zero =>
    intro m hm hd
    obtain rfl : m = 64 := by omega
    refine Ev.step (fun k => ?_) (Ev.now _)
    simp only [portagekit_LentValues.l1]
    rw [if_neg (by omega)]
  | succ d ih =>
    intro m hm hd
    refine Ev.step (fun k => ?_) (ih (m + 1) (by omega) (by omega))
    simp only [portagekit_LentValues.l1]
    rw [if_pos (by omega), if_pos (by rw [List.length_append, vmarks_length]; omega), wrap_nat m 64 (by omega) (by omega), vmarks_succ, List.append_assoc]
    rfl
theorem lentv_l0 (l : List S48) (hl : l.length < 4398046511104) (d : Nat) : ∀ i : Nat, i ≤ l.length → l.length - i = d → Ev (fun k => portagekit_LentValues.l0 k l (l.take i) (i : Int)) (l ++ vmarks 64) := by
  induction d with
  | zero =>
    intro i hi hd
    obtain rfl : i = l.length := by omega
    refine Ev.step (fun k => ?_) (lentv_l1 l hl _ 0 (Nat.zero_le _) rfl)
    simp only [portagekit_LentValues.l0]
    rw [if_neg (by omega), List.take_length]
    simp [vmarks]
  | succ d ih =>
    intro i hi hd
    refine Ev.step (fun k => ?_) (ih (i + 1) (by omega) (by omega))
    have hi2 : i < l.length := by omega
    simp only [portagekit_LentValues.l0]
    rw [if_pos (by omega), if_pos (by omega), if_pos (by rw [List.length_take]; omega), wrap_nat i l.length hi2 (by omega), List.take_add_one]
    simp only [rd_T48, List.getD_eq_getElem?_getD, Int.toNat_natCast, List.getElem?_eq_getElem hi2, Option.getD_some]
    rfl
theorem lentv_ev (l : List S48) (hl : l.length < 4398046511104) : ∃ k, portagekit_LentValues.f k l = some (l ++ vmarks 64) := (lentv_l0 l hl _ 0 (Nat.zero_le _) rfl).rounds

def r37_9_T : Bool × List (List Nat × List Nat) := (true, [([], []), ([], []), ([0, 1], [0, 1]), ([2], [2]), ([], []), ([3, 4], [3, 4])])
def r37_9_B : List Nat := [0, 0, 3, 7, 0, 31]
theorem r37_9_tab : rtab .any (opsOf Tryz.f37 9) = r37_9_T := by kernel_rfl
theorem r37_9_bits : waitsOk r37_9_T.2 r37_9_B = true := by kernel_rfl
set_option maxHeartbeats 4000000 in
set_option maxRecDepth 100000 in
theorem keptv_calls (A0 A1 : Option Addr) (c0 c1 : Nat) (l : List S48) (w : World) (hg : Kd.C k48 w A0 (l.length + 64) (l ++ vmarks 64)) (hc0 : l.length + 64 ≤ c0) (hr : Kd.C k48 w A1 l.length l) (hc1 : l.length ≤ c1) (hl : l.length < 4398046511104) :
    Calls Tryz.prog 37 #[.slice A0 (l.length + 64) c0, .slice A1 l.length c1] w fun e w' => e = .returned (.bool true) ∧ Below w.heap.size w w' := by
  have HG := Aside0.mk hg
  have HR := Aside0.mk hr
  clear hg hr
  go_enter Tryz.func37, Tryz.ntmps37
  go_wp2_with fail
  go_loopw [5] (fun i wr => ∃ k : Nat, k ≤ l.length + 64 ∧ i = .int .i64 k ∧ Aside0 (Below w.heap.size w wr)) (fun i _ => l.length + 64 - (intOf i).toNat)
  case atStart => exact ⟨0, Nat.zero_le _, rfl, ⟨Below.refl _ _⟩⟩
  case round =>
    obtain ⟨k, hk, rfl, HB⟩ := hrel
    by_cases hlt : k < l.length + 64
    · obtain ⟨a0, rfl, g0, g1⟩ := at_T48 HG.out (k : Int) (by omega) (by omega)
      by_cases hkl : k < l.length
      · obtain ⟨a1, rfl, h0, h1⟩ := at_T48 HR.out (k : Int) (by omega) (by omega)
        have he : rd_T48 (l ++ vmarks 64) (k : Int) = rd_T48 l (k : Int) := by
          simp only [rd_T48, Int.toNat_natCast, List.getD_eq_getElem?_getD]
          rw [List.getElem?_append_left hkl]
        rw [he] at g0 g1
        simp only [Int.toNat_natCast] at g0 g1 h0 h1
        clear he
        generalize (rd_T48 l (k : Int)).f0 = x at g0 h0
        generalize (rd_T48 l (k : Int)).f1 = y at g1 h1
        have HC : Aside0 (w.cell? (a0.add (k * 2)) = some (.int .i64 x) ∧ w.cell? ⟨(a0.add (k * 2)).block, (a0.add (k * 2)).off + 1, none⟩ = some (.int .i64 y) ∧ w.cell? (a1.add (k * 2)) = some (.int .i64 x) ∧ w.cell? ⟨(a1.add (k * 2)).block, (a1.add (k * 2)).off + 1, none⟩ = some (.int .i64 y)) := ⟨g0, g1, h0, h1⟩
        clear g0 g1 h0 h1
        go_upto_region 7 with fail
        have hb6 := blk_new wr (.cells #[.int .i64 (-9), .int .i64 ((k : Int) - (l.length : Int))] 48)
        have HB1 := Aside0.mk (below_alloc HB.out (.cells #[.int .i64 (-9), .int .i64 ((k : Int) - (l.length : Int))] 48))
        have hg6 : w.heap.size ≤ wr.heap.size := HB.out.size
        clear HB
        generalize wr.alloc (.cells #[.int .i64 (-9), .int .i64 ((k : Int) - (l.length : Int))] 48) = W1 at hb6 HB1 ⊢
        generalize wr.heap.size = g6 at hb6 hg6 ⊢
        have h0 := pw_cell_below HB1.out HC.out.2.2.1
        have h1 := pw_cell_below HB1.out HC.out.2.2.2
        have hx0 : W1.cell? ⟨g6, 0, none⟩ = some (.int .i64 (-9)) := (blk_cell hb6 0).trans rfl
        have hx1 : W1.cell? ⟨g6, 1, none⟩ = some (.int .i64 ((k : Int) - (l.length : Int))) := (blk_cell hb6 1).trans rfl
        have hf0 := blk_frozen hb6 0
        have hf1 := blk_frozen hb6 1
        have HB6 := Aside0.mk hb6
        clear hb6
        go_upto_region 9 with fail
        have HB2 := (⟨below_set (below_set HB1.out hg6) hg6⟩ : Aside0 (Below w.heap.size w ((W1.setCell ⟨g6, 0, none⟩ (.int .i64 x)).setCell ⟨g6, 1, none⟩ (.int .i64 y))))
        have HB7 := Aside0.mk (blk_put (blk_put HB6.out 0 (.int .i64 x) rfl) 1 (.int .i64 y) (cs' := #[.int .i64 x, .int .i64 y]) rfl)
        clear h0 h1 hx0 hx1 hf0 hf1 HB1 HB6
        generalize (W1.setCell ⟨g6, 0, none⟩ (.int .i64 x)).setCell ⟨g6, 1, none⟩ (.int .i64 y) = W2 at HB2 HB7 ⊢
        replace HB2 : Aside0 (Below w.heap.size w W2.drew) := ⟨below_drew HB2.out⟩
        replace HB7 : Aside0 (W2.drew.heap[g6]? = _) := ⟨HB7.out⟩
        have HG2 : Aside0 (W2.drew.cell? (a0.add (k * 2)) = some (.int .i64 x) ∧ W2.drew.cell? ⟨(a0.add (k * 2)).block, (a0.add (k * 2)).off + 1, none⟩ = some (.int .i64 y) ∧ W2.drew.cell? ⟨g6, 0, none⟩ = some (.int .i64 x) ∧ W2.drew.cell? ⟨g6, 1, none⟩ = some (.int .i64 y)) := ⟨pw_cell_below HB2.out HC.out.1, pw_cell_below HB2.out HC.out.2.1, (blk_cell HB7.out 0).trans rfl, (blk_cell HB7.out 1).trans rfl⟩
        have hin0 : (0 : Int) ≤ (k : Int) := by omega
        have hin1 : (k : Int) < (l.length : Int) + 64 := by omega
        refine start_ (n := 6) (S := fun w' => w'.cell? (a0.add (k * 2)) = some (.int .i64 x) ∧ w'.cell? ⟨(a0.add (k * 2)).block, (a0.add (k * 2)).off + 1, none⟩ = some (.int .i64 y) ∧ w'.cell? ⟨g6, 0, none⟩ = some (.int .i64 x) ∧ w'.cell? ⟨g6, 1, none⟩ = some (.int .i64 y)) (ds := []) #[false, false, false, false, false, false] (by kernel_rfl) rfl rfl HG2.out (fun hHeld => ?_)
        refine with_tabW r37_9_tab r37_9_bits (fun HT_ HW_ => ?_)
        generalize World.drew W2 = W3 at HB2 HB7 HG2 hHeld ⊢
        refine pure_ (i := 0) (N := some 32) (v := ?_) (a' := ?_) #[true, false, false, false, false, false] rfl rfl (any_of HT_.out (by kernel_rfl)) (fun _ _ _ h => h) (Or.inl ⟨by rfl, ?_⟩) ?_ ?_
        rotate_left
        · intro w'
          go_simp
          with_reducible rfl
        rotate_left
        · simp only [Act.put, List.setIfInBounds_toArray, List.set_cons_zero, List.set_cons_succ, i64_w, i32_w]
          rfl
        refine pure_ (i := 1) (N := some 33) (v := ?_) (a' := ?_) #[true, true, false, false, false, false] rfl rfl (any_of HT_.out (by kernel_rfl)) (fun _ _ _ h => h) (Or.inl ⟨by rfl, ?_⟩) ?_ ?_
        rotate_left
        · intro w'
          go_simp
          with_reducible rfl
        rotate_left
        · simp only [Act.put, List.setIfInBounds_toArray, List.set_cons_zero, List.set_cons_succ, i64_w, i32_w]
          rfl
        refine pure_ (i := 2) (N := some 34) (v := ?_) (a' := ?_) #[true, true, true, false, false, false] rfl rfl (any_of HT_.out (by kernel_rfl)) (fun _ _ _ h => h) (Or.inl ⟨by rfl, ?_⟩) ?_ ?_
        rotate_left
        · intro w'
          go_simp
          with_reducible rfl
        rotate_left
        · simp only [Act.put, List.setIfInBounds_toArray, List.set_cons_zero, List.set_cons_succ, i64_w, i32_w]
          rfl
        refine take_ (i := 3) (N := some 35) (v := ?_) (a' := ?_) #[true, true, true, true, false, false] rfl rfl (take_ofW HT_.out HW_.out (by kernel_rfl)) (fun _ _ _ h => h) (Or.inl ⟨by rfl, ?_⟩) hHeld ?_ ?_
        rotate_left
        · rintro w' ⟨s0, s1, s2, s3⟩
          go_simp
          with_reducible rfl
        rotate_left
        · simp only [Act.put, List.setIfInBounds_toArray, List.set_cons_zero, List.set_cons_succ, i64_w, i32_w]
          rfl
        refine take_ (i := 4) (N := some 36) (v := ?_) (a' := ?_) #[true, true, true, true, true, false] rfl rfl (take_ofW HT_.out HW_.out (by kernel_rfl)) (fun _ _ _ h => h) (Or.inl ⟨by rfl, ?_⟩) hHeld ?_ ?_
        rotate_left
        · rintro w' ⟨s0, s1, s2, s3⟩
          go_simp
          with_reducible rfl
        rotate_left
        · simp only [Act.put, List.setIfInBounds_toArray, List.set_cons_zero, List.set_cons_succ, i64_w, i32_w]
          rfl
        refine pure_ (i := 5) (N := some 37) (v := ?_) (a' := ?_) #[true, true, true, true, true, true] rfl rfl (any_of HT_.out (by kernel_rfl)) (fun _ _ _ h => h) (Or.inl ⟨by rfl, ?_⟩) ?_ ?_
        rotate_left
        · intro w'
          go_simp
          with_reducible rfl
        rotate_left
        · simp only [Act.put, List.setIfInBounds_toArray, List.set_cons_zero, List.set_cons_succ, i64_w, i32_w]
          rfl
        refine done_ (done_of HT_.out (by kernel_rfl)) ?_
        go_wp2_with fail
        go_roundw
        case rel => exact ⟨k + 1, by omega, by go_num, HB2⟩
        case measure => simp [intOf]; omega
      · obtain ⟨m, hm⟩ : ∃ m, k = l.length + m := ⟨k - l.length, by omega⟩
        have he : rd_T48 (l ++ vmarks 64) (k : Int) = vmark m := by
          rw [hm]
          simp only [rd_T48, Int.toNat_natCast, List.getD_eq_getElem?_getD]
          rw [List.getElem?_append_right (by omega)]
          simp [vmarks, show m < 64 by omega]
        rw [he] at g0 g1
        simp only [Int.toNat_natCast, vmark] at g0 g1
        have e1 : (k : Int) - (l.length : Int) = (m : Int) := by omega
        have e2 : decide ((k : Int) < (l.length : Int)) = false := decide_eq_false (by omega)
        clear he hm
        have HC := Aside0.mk (And.intro g0 g1)
        clear g0 g1
        go_upto_region 7 with fail
        have HB7 := Aside0.mk (blk_new wr (.cells #[.int .i64 (-9), .int .i64 (m : Int)] 48))
        have HB2 := Aside0.mk (below_alloc HB.out (.cells #[.int .i64 (-9), .int .i64 (m : Int)] 48))
        clear HB
        generalize wr.alloc (.cells #[.int .i64 (-9), .int .i64 (m : Int)] 48) = W2 at HB2 HB7 ⊢
        generalize wr.heap.size = g6 at HB7 ⊢
        go_upto_region 9 with fail
        replace HB2 : Aside0 (Below w.heap.size w W2.drew) := ⟨below_drew HB2.out⟩
        replace HB7 : Aside0 (W2.drew.heap[g6]? = _) := ⟨HB7.out⟩
        have HG2 : Aside0 (W2.drew.cell? (a0.add (k * 2)) = some (.int .i64 (-9)) ∧ W2.drew.cell? ⟨(a0.add (k * 2)).block, (a0.add (k * 2)).off + 1, none⟩ = some (.int .i64 (m : Int)) ∧ W2.drew.cell? ⟨g6, 0, none⟩ = some (.int .i64 (-9)) ∧ W2.drew.cell? ⟨g6, 1, none⟩ = some (.int .i64 (m : Int))) := ⟨pw_cell_below HB2.out HC.out.1, pw_cell_below HB2.out HC.out.2, (blk_cell HB7.out 0).trans rfl, (blk_cell HB7.out 1).trans rfl⟩
        have hin0 : (0 : Int) ≤ (k : Int) := by omega
        have hin1 : (k : Int) < (l.length : Int) + 64 := by omega
        refine start_ (n := 6) (S := fun w' => w'.cell? (a0.add (k * 2)) = some (.int .i64 (-9)) ∧ w'.cell? ⟨(a0.add (k * 2)).block, (a0.add (k * 2)).off + 1, none⟩ = some (.int .i64 (m : Int)) ∧ w'.cell? ⟨g6, 0, none⟩ = some (.int .i64 (-9)) ∧ w'.cell? ⟨g6, 1, none⟩ = some (.int .i64 (m : Int))) (ds := []) #[false, false, false, false, false, false] (by kernel_rfl) rfl rfl HG2.out (fun hHeld => ?_)
        refine with_tabW r37_9_tab r37_9_bits (fun HT_ HW_ => ?_)
        generalize World.drew W2 = W3 at HB2 HB7 HG2 hHeld ⊢
        refine pure_ (i := 0) (N := some 32) (v := ?_) (a' := ?_) #[true, false, false, false, false, false] rfl rfl (any_of HT_.out (by kernel_rfl)) (fun _ _ _ h => h) (Or.inl ⟨by rfl, ?_⟩) ?_ ?_
        rotate_left
        · intro w'
          go_simp
          with_reducible rfl
        rotate_left
        · simp only [Act.put, List.setIfInBounds_toArray, List.set_cons_zero, List.set_cons_succ, i64_w, i32_w]
          rfl
        refine pure_ (i := 1) (N := some 33) (v := ?_) (a' := ?_) #[true, true, false, false, false, false] rfl rfl (any_of HT_.out (by kernel_rfl)) (fun _ _ _ h => h) (Or.inl ⟨by rfl, ?_⟩) ?_ ?_
        rotate_left
        · intro w'
          go_simp
          with_reducible rfl
        rotate_left
        · simp only [Act.put, List.setIfInBounds_toArray, List.set_cons_zero, List.set_cons_succ, i64_w, i32_w]
          rfl
        refine pure_ (i := 2) (N := some 34) (v := ?_) (a' := ?_) #[true, true, true, false, false, false] rfl rfl (any_of HT_.out (by kernel_rfl)) (fun _ _ _ h => h) (Or.inl ⟨by rfl, ?_⟩) ?_ ?_
        rotate_left
        · intro w'
          go_simp
          with_reducible rfl
        rotate_left
        · simp only [Act.put, List.setIfInBounds_toArray, List.set_cons_zero, List.set_cons_succ, i64_w, i32_w]
          rfl
        refine take_ (i := 3) (N := some 35) (v := ?_) (a' := ?_) #[true, true, true, true, false, false] rfl rfl (take_ofW HT_.out HW_.out (by kernel_rfl)) (fun _ _ _ h => h) (Or.inl ⟨by rfl, ?_⟩) hHeld ?_ ?_
        rotate_left
        · rintro w' ⟨s0, s1, s2, s3⟩
          go_simp
          with_reducible rfl
        rotate_left
        · simp only [Act.put, List.setIfInBounds_toArray, List.set_cons_zero, List.set_cons_succ, i64_w, i32_w]
          rfl
        refine take_ (i := 4) (N := some 36) (v := ?_) (a' := ?_) #[true, true, true, true, true, false] rfl rfl (take_ofW HT_.out HW_.out (by kernel_rfl)) (fun _ _ _ h => h) (Or.inl ⟨by rfl, ?_⟩) hHeld ?_ ?_
        rotate_left
        · rintro w' ⟨s0, s1, s2, s3⟩
          go_simp
          with_reducible rfl
        rotate_left
        · simp only [Act.put, List.setIfInBounds_toArray, List.set_cons_zero, List.set_cons_succ, i64_w, i32_w]
          rfl
        refine pure_ (i := 5) (N := some 37) (v := ?_) (a' := ?_) #[true, true, true, true, true, true] rfl rfl (any_of HT_.out (by kernel_rfl)) (fun _ _ _ h => h) (Or.inl ⟨by rfl, ?_⟩) ?_ ?_
        rotate_left
        · intro w'
          go_simp
          with_reducible rfl
        rotate_left
        · simp only [Act.put, List.setIfInBounds_toArray, List.set_cons_zero, List.set_cons_succ, i64_w, i32_w]
          rfl
        refine done_ (done_of HT_.out (by kernel_rfl)) ?_
        go_wp2_with fail
        go_roundw
        case rel => exact ⟨k + 1, by omega, by go_num, HB2⟩
        case measure => simp [intOf]; omega
    · go_wp2
      go_ret
      exact ⟨rfl, HB.out⟩
end Go.Proofs.YtjeaojolhdfpeaaGreat.BookV
