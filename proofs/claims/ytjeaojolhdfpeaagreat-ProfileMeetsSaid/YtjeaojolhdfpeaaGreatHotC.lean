/- Profile: the comparison that Hot hands to the sort. -/
import Derived.Test.YtjeaojolhdfpeaaGreatHotM
import Derived.Test.YtjeaojolhdfpeaaGreatProg
import Derived.Test.YtjeaojolhdfpeaaGreatWMore
import Derived.Maps.OwnOps
import Derived.Sort.Grow
import Derived.WalkKit
namespace Go.Proofs.YtjeaojolhdfpeaaGreat.HotC
open Go.RowKit Go.Maps Go.Sort Go.Proofs.YtjeaojolhdfpeaaGreatW.PrintWords
open Go.Proofs.YtjeaojolhdfpeaaGreat.HotP Go.Proofs.YtjeaojolhdfpeaaGreat.HotM
set_option linter.unusedVariables false
set_option linter.unusedSimpArgs false

theorem isNaN64 (x : Int) (w : World) : Calls Tryz.prog 110 #[.int .i64 x] w fun e w' => e = .returned (.bool false) ∧ w' = w := by
  go_enter Tryz.func110, Tryz.ntmps110
  go_wp2
  go_ret
  exact ⟨by simp, rfl⟩
theorem isNaNInt (x : Int) (w : World) : Calls Tryz.prog 90 #[.int .i64 x] w fun e w' => e = .returned (.bool false) ∧ w' = w := by
  go_enter Tryz.func90, Tryz.ntmps90
  go_wp2
  go_ret
  exact ⟨by simp, rfl⟩
set_option maxHeartbeats 1000000 in
theorem cmp64 (x y : Int) (w : World) : Calls Tryz.prog 61 #[.int .i64 x, .int .i64 y] w fun e w' => e = .returned (.int .i64 (cmpI x y)) ∧ w' = w := by
  go_enter Tryz.func61, Tryz.ntmps61
  go_wp2_with (go_at_call 110; refine (isNaN64 _ _).mono ?_; rintro e w' ⟨rfl, hw⟩; rw [hw])
  all_goals (go_ret; refine ⟨?_, rfl⟩; unfold cmpI; (repeat' split) <;> first | rfl | (exfalso; omega))
set_option maxHeartbeats 1000000 in
theorem cmpInt (x y : Int) (w : World) : Calls Tryz.prog 41 #[.int .i64 x, .int .i64 y] w fun e w' => e = .returned (.int .i64 (cmpI x y)) ∧ w' = w := by
  go_enter Tryz.func41, Tryz.ntmps41
  go_wp2_with (go_at_call 90; refine (isNaNInt _ _).mono ?_; rintro e w' ⟨rfl, hw⟩; rw [hw])
  all_goals (go_ret; refine ⟨?_, rfl⟩; unfold cmpI; (repeat' split) <;> first | rfl | (exfalso; omega))

theorem keyed3 : Keyed Tryz.prog 3 := int_keyed Tryz.underlying3
theorem zero2 (w : World) : (zeroValue 2).run Tryz.prog w = .ok (.int .i64 0) w := by kernel_rfl

set_option maxHeartbeats 1000000 in
theorem or2 (a b : Int) (g : Nat) (w : World) (h0 : w.cell? ⟨g, 0, none⟩ = some (.int .i64 a)) (h1 : w.cell? ⟨g, 1, none⟩ = some (.int .i64 b)) :
    Calls Tryz.prog 40 #[.slice (some ⟨g, 0, none⟩) 2 2] w fun e w' => e = .returned (.int .i64 (orI a b)) ∧ w' = w := by
  go_enter Tryz.func40, Tryz.ntmps40
  go_wp2
  refine wp_loop_rounds 3 ?_
  rw [rounds_succ]
  go_wp2
  · go_ret
    refine ⟨?_, rfl⟩
    unfold orI
    simp_all
  · rw [rounds_succ]
    go_wp2
    · go_ret
      refine ⟨?_, rfl⟩
      unfold orI
      simp_all
    · rw [rounds_succ]
      go_wp2
      go_ret
      refine ⟨?_, rfl⟩
      unfold orI
      simp_all

set_option maxHeartbeats 4000000 in
set_option maxRecDepth 100000 in
/-- The comparison: by how often, then by the number. -/
theorem cmp_calls (pb bm n : Nat) (D : DataW Unit) (c : Int → Int) (hat : ∀ x, D.atKey (kz x) (vz 0) = vz (c x)) (x y : Int) (hx : (Lit.int .i64 x).wf = true) (hy : (Lit.int .i64 y).wf = true) (w : World)
    (hb : w.cell? ⟨pb, 0, none⟩ = some (.map (some bm))) (hown : w.ownsMap Tryz.prog 3 (plainElem Tryz.prog 2) bm n D) :
    Calls Tryz.prog 60 #[.int .i64 x, .int .i64 y, .pointer (some ⟨pb, 0, none⟩)] w fun e w' => e = .returned (.int .i64 (cf c x y)) ∧ ∃ q os, w' = grow (w.drewN q) os := by
  have hkx : keyOf Tryz.prog 3 (.int .i64 x) = some (.int .i64 x) := keyOf_int_mk Tryz.underlying3 hx
  have hky : keyOf Tryz.prog 3 (.int .i64 y) = some (.int .i64 y) := keyOf_int_mk Tryz.underlying3 hy
  go_enter Tryz.func60, Tryz.ntmps60
  go_wp2_with (first
    | (at_lookup; refine wpList_lookup_own_int _ rfl _ _ 118 rfl 3 2 .i64 keyed3 Tryz.underlying118 Tryz.underlying2 (zero2 _) bm n _ rfl hown _ _ rfl (by first | exact hkx | exact hky) ?_; intro c1 hat1 hwc1)
    | (go_at_call 61; refine (cmp64 _ _ _).mono ?_; rintro e w' ⟨rfl, hw⟩; rw [hw])
    | (go_at_call 41; refine (cmpInt _ _ _).mono ?_; rintro e w' ⟨rfl, hw⟩; rw [hw])
    | (go_at_call 40; refine (or2 _ _ _ _ ((blk_cell (blk_new _ _) 0).trans rfl) ((blk_cell (blk_new _ _) 1).trans rfl)).mono ?_; rintro e w' ⟨rfl, hw⟩; rw [hw]))
  go_ret
  have e1 := (hat y).symm.trans (by assumption)
  have e2 := (hat x).symm.trans (by assumption)
  refine ⟨?_, 0, #[_], rfl⟩
  unfold cf
  injection e1 with e1
  injection e1 with _ e1
  injection e2 with e2
  injection e2 with _ e2
  rw [e1, e2]
  rfl
end Go.Proofs.YtjeaojolhdfpeaaGreat.HotC
