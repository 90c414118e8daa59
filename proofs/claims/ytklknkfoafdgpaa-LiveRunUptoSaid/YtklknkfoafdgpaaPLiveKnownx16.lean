-- printed by print.sh 35421559b90ae4d0a3588c463048766b98c2df88dd9212a6774a882060cdf62d, cut by a program to what the claim asks for
import Derived.Test.YtklknkfoafdgpaaPLiveKnownx0
import Derived.Test.YtklknkfoafdgpaaPLiveKnownx8
namespace Go.Proofs.Ytklknkfoafdgpaa.PLiveKnown
open Go.RowKit Go.Proofs.YtklknkfoafdgpaaW.PrintWords Go.Proofs.YtklknkfoafdgpaaW.PrintLast Go.Proofs.YtklknkfoafdgpaaW.PrintMore
attribute [local go_sem] max2_int min2_int max_two min_two max_three min_three max_four min_four   -- for this text's walks alone
set_option linter.unusedVariables false
set_option linter.unusedSimpArgs false

/-! ### portageref24_Idle: function 34 -/
def portageref24_Idle.f (a0_0 : Int) (a0_1 : Int) (l0_2 : List (S43)) (l1 : List (List (List Bool))) (a2 : Int) (a3 : Int) : Option (Bool) := if 0 ≤ a2 then (if a2 < (l0_2.length : Int) then (if 0 ≤ a3 then (if a3 < (((rd_T43 l0_2 a2).f1).length : Int) then ((portageref24_quiet.f ((rd_T47 ((rd_T43 l0_2 a2).f1) a3).f0) ((rd_T47 ((rd_T43 l0_2 a2).f1) a3).f1) ((rd_T47 ((rd_T43 l0_2 a2).f1) a3).f2) ((rd_T47 ((rd_T43 l0_2 a2).f1) a3).f3) ((rd_T47 ((rd_T43 l0_2 a2).f1) a3).f4) ((rd_T47 ((rd_T43 l0_2 a2).f1) a3).f5) ((rd_T47 ((rd_T43 l0_2 a2).f1) a3).f6) ((rd_T47 ((rd_T43 l0_2 a2).f1) a3).f7)).bind fun t342 => (if t342 = true then (if a2 < (l1.length : Int) then (if 0 ≤ (wrap64 (a3 + 1)) then (if (wrap64 (a3 + 1)) < ((rd_L11 l1 a2).length : Int) then ((portageref24_in.f (rd_L10 (rd_L11 l1 a2) (wrap64 (a3 + 1))) ((rd_T47 ((rd_T43 l0_2 a2).f1) a3).f2)).bind fun t345 => (some (!t345))) else (none)) else (none)) else (none)) else (some false))) else (none)) else (none)) else (none)) else (none)
def portageref24_Idle.T2 : Bool × List (List Nat × List Nat) := (true, [([], []), ([0], [0]), ([1, 1], [1]), ([2], [2]), ([2], [2]), ([3, 4, 2], [2, 3, 4]), ([5, 2], [2, 5]), ([2], [2]), ([7, 2], [2, 7]), ([6, 8, 2], [2, 6, 8]), ([9, 2], [2, 9]), ([2], [2]), ([11, 2], [2, 11]), ([10, 12, 2, 2], [2, 10, 12]), ([13, 2], [2, 13]), ([2, 14], [2, 14]), ([15, 13, 0, 1, 2, 3, 4, 5, 6, 7, 8, 9, 10, 11, 12, 13, 14, 15], [15])])
def portageref24_Idle.B2 : List Nat := [0, 1, 3, 7, 7, 31, 63, 7, 135, 511, 1023, 7, 2055, 8191, 16383, 32767, 65535]
theorem portageref24_Idle.tab2 : rtab .any (opsOf Try.f34 2) = portageref24_Idle.T2 := by kernel_rfl
theorem portageref24_Idle.bits2 : waitsOk portageref24_Idle.T2.2 portageref24_Idle.B2 = true := by kernel_rfl
set_option maxHeartbeats 8000000 in
set_option maxRecDepth 100000 in
theorem portageref24_Idle.calls (a0_0 : Int) (a0_1 : Int) (A0_2 : Option Addr) (c0_2 : Nat) (l0_2 : List (S43)) (A1 : Option Addr) (c1 : Nat) (l1 : List (List (List Bool))) (a2 : Int) (a3 : Int) (r : Bool) (w : World) (hr0_2 : Kd.C k43 w A0_2 l0_2.length l0_2) (hc0_2 : l0_2.length ≤ c0_2) (hr1 : Kd.C (Kd.slice 53 (Kd.slice 4 Kd.bool)) w A1 l1.length l1) (hc1 : l1.length ≤ c1) (h : portageref24_Idle.f a0_0 a0_1 l0_2 l1 a2 a3 = some r) :
    Calls Try.prog 34 #[.agg #[.int .i64 a0_0, .int .i64 a0_1, .slice A0_2 l0_2.length c0_2], .slice A1 l1.length c1, .int .i64 a2, .int .i64 a3] w fun e w' => e = .returned (.bool r) ∧ Below w.heap.size w w' := by
  have hu24 := Try.underlying24
  have hu47 := Try.underlying47
  have HR0_2 := Aside0.mk hr0_2
  have HC0_2 := Aside0.mk hc0_2
  clear hr0_2 hc0_2
  have HR1 := Aside0.mk hr1
  have HC1 := Aside0.mk hc1
  clear hr1 hc1
  have HB := Aside0.mk (Below.refl w.heap.size w)
  have H : (if 0 ≤ a2 then (if a2 < (l0_2.length : Int) then (if 0 ≤ a3 then (if a3 < (((rd_T43 l0_2 a2).f1).length : Int) then ((portageref24_quiet.f ((rd_T47 ((rd_T43 l0_2 a2).f1) a3).f0) ((rd_T47 ((rd_T43 l0_2 a2).f1) a3).f1) ((rd_T47 ((rd_T43 l0_2 a2).f1) a3).f2) ((rd_T47 ((rd_T43 l0_2 a2).f1) a3).f3) ((rd_T47 ((rd_T43 l0_2 a2).f1) a3).f4) ((rd_T47 ((rd_T43 l0_2 a2).f1) a3).f5) ((rd_T47 ((rd_T43 l0_2 a2).f1) a3).f6) ((rd_T47 ((rd_T43 l0_2 a2).f1) a3).f7)).bind fun t342 => (if t342 = true then (if a2 < (l1.length : Int) then (if 0 ≤ (wrap64 (a3 + 1)) then (if (wrap64 (a3 + 1)) < ((rd_L11 l1 a2).length : Int) then ((portageref24_in.f (rd_L10 (rd_L11 l1 a2) (wrap64 (a3 + 1))) ((rd_T47 ((rd_T43 l0_2 a2).f1) a3).f2)).bind fun t345 => (some (!t345))) else (none)) else (none)) else (none)) else (some false))) else (none)) else (none)) else (none)) else (none)) = some r := h
  clear h
  by_cases c5 : 0 ≤ a2
  · rw [if_pos c5] at H
    have c5b0 : decide (0 ≤ a2) = true := decide_eq_true c5
    clear c5
    by_cases c6 : a2 < (l0_2.length : Int)
    · rw [if_pos c6] at H
      have c6b0 : decide (a2 < (l0_2.length : Int)) = true := decide_eq_true c6
      clear c6
      by_cases c7 : 0 ≤ a3
      · rw [if_pos c7] at H
        have c7b0 : decide (0 ≤ a3) = true := decide_eq_true c7
        clear c7
        by_cases c8 : a3 < (((rd_T43 l0_2 a2).f1).length : Int)
        · rw [if_pos c8] at H
          have c8b0 : decide (a3 < (((rd_T43 l0_2 a2).f1).length : Int)) = true := decide_eq_true c8
          clear c8
          replace H := Option.bind_eq_some_iff.mp H
          obtain ⟨t342, A90, H⟩ := H
          replace H : (if t342 = true then (if a2 < (l1.length : Int) then (if 0 ≤ (wrap64 (a3 + 1)) then (if (wrap64 (a3 + 1)) < ((rd_L11 l1 a2).length : Int) then ((portageref24_in.f (rd_L10 (rd_L11 l1 a2) (wrap64 (a3 + 1))) ((rd_T47 ((rd_T43 l0_2 a2).f1) a3).f2)).bind fun t345 => (some (!t345))) else (none)) else (none)) else (none)) else (some false)) = some r := H
          have A9 := Aside0.mk A90
          clear A90
          by_cases c10 : t342 = true
          · subst c10
            have H1 : (if a2 < (l1.length : Int) then (if 0 ≤ (wrap64 (a3 + 1)) then (if (wrap64 (a3 + 1)) < ((rd_L11 l1 a2).length : Int) then ((portageref24_in.f (rd_L10 (rd_L11 l1 a2) (wrap64 (a3 + 1))) ((rd_T47 ((rd_T43 l0_2 a2).f1) a3).f2)).bind fun t345 => (some (!t345))) else (none)) else (none)) else (none)) = some r := by rw [if_pos rfl] at H; exact H
            clear H
            have H := H1
            clear H1
            by_cases c11 : a2 < (l1.length : Int)
            · rw [if_pos c11] at H
              have c11b0 : decide (a2 < (l1.length : Int)) = true := decide_eq_true c11
              clear c11
              obtain ⟨ji12, hji12⟩ : ∃ j_ : Int, (wrap64 (a3 + 1)) = j_ := ⟨_, rfl⟩
              replace H : (if 0 ≤ (ji12) then (if (ji12) < ((rd_L11 l1 a2).length : Int) then ((portageref24_in.f (rd_L10 (rd_L11 l1 a2) (ji12)) ((rd_T47 ((rd_T43 l0_2 a2).f1) a3).f2)).bind fun t345 => (some (!t345))) else (none)) else (none)) = some r := by first | (rw [hji12] at H; exact H) | (simp only [hji12] at H ⊢; exact H)
              (try rw [hji12] at A9)
              have hji12w : (IntKind.i64.wrap (a3 + 1)) = ji12 := (i64_w _).trans hji12
              by_cases c13 : 0 ≤ (ji12)
              · rw [if_pos c13] at H
                have c13b0 : decide (0 ≤ (ji12)) = true := decide_eq_true c13
                clear c13
                by_cases c14 : (ji12) < ((rd_L11 l1 a2).length : Int)
                · rw [if_pos c14] at H
                  have c14b0 : decide ((ji12) < ((rd_L11 l1 a2).length : Int)) = true := decide_eq_true c14
                  clear c14
                  replace H := Option.bind_eq_some_iff.mp H
                  obtain ⟨t345, A150, H⟩ := H
                  replace H : (some (!t345)) = some r := H
                  have A15 := Aside0.mk A150
                  clear A150
                  obtain rfl := Option.some.inj H
                  go_enter Try.func34, Try.ntmps34
                  try go_wp2_with (first | ((with_reducible refine gate_dst (N := 4) rfl ?_); refine box_event ?hg (N := 4) ?hd (cs := #[.int .i64 a0_0, .int .i64 a0_1, .slice A0_2 l0_2.length c0_2]) (t := 24) ?hr ?_; (case hd => rfl); (case hg => rfl); (case hr => first | (go_simp; done) | (go_simp; rfl)); intro gb338 hg w16 hbox hb; have n0_ := Aside0.mk (below_step (by repeat (first | (with_reducible first | exact HB.out | apply below_alloc | apply pw_below_drewN | apply below_drew1) | exact HB.out)) hb); have n1_ := Aside0.mk (hbox); have n2_ := Aside0.mk ((by rw [hg]; exact (below_size (by repeat (first | (with_reducible first | exact HB.out | apply below_alloc | apply pw_below_drewN | apply below_drew1) | exact HB.out))) : w.heap.size ≤ gb338)); have n3_ := Aside0.mk ((by rw [hg]; exact (below_size (by repeat (first | (with_reducible first | exact HB.out | apply below_alloc | apply pw_below_drewN | apply below_drew1) | exact HB.out))) : w.heap.size ≤ gb338)); clear HB; have HB := n0_; have BK338 := n1_; have GW338 := n2_; have GE338 := n3_; clear n0_ n1_ n2_ n3_; clear hb hbox hg; have hcz17_0 : w16.cell? ⟨gb338, 0, none⟩ = some (.int .i64 a0_0) := (blk_cell BK338.out 0).trans rfl; have hcz17_1 : w16.cell? ⟨gb338, 1, none⟩ = some (.int .i64 a0_1) := (blk_cell BK338.out 1).trans rfl; have hcz17_2 : w16.cell? ⟨gb338, 2, none⟩ = some (.slice A0_2 l0_2.length c0_2) := (blk_cell BK338.out 2).trans rfl; have hfz17_0 := blk_frozen BK338.out 0; have hfz17_1 := blk_frozen BK338.out 1; have hfz17_2 := blk_frozen BK338.out 2; have p339 : 0 ≤ (a2 : Int) := of_decide_eq_true (by first | (with_reducible assumption) | assumption); have q339 : a2 < (l0_2.length : Int) := of_decide_eq_true (by first | (with_reducible assumption) | assumption); obtain ⟨ad339, A339_1, c339_1, A339_2, c339_2, e339, hx339_0, hx339_1, hx339_2, hl339_1, hi339_1, hl339_2, hi339_2⟩ := at_T43 HR0_2.out a2 p339 q339; cases e339; replace hx339_0 := (HB.out.cell (World.block_lt_of_cell? w _ hx339_0)).trans hx339_0; replace hx339_1 := (HB.out.cell (World.block_lt_of_cell? w _ hx339_1)).trans hx339_1; replace hx339_2 := (HB.out.cell (World.block_lt_of_cell? w _ hx339_2)).trans hx339_2; have HR339_1 := Aside0.mk hi339_1; have HC339_1 := Aside0.mk hl339_1; clear hi339_1 hl339_1; have HR339_2 := Aside0.mk hi339_2; have HC339_2 := Aside0.mk hl339_2; clear hi339_2 hl339_2; replace p339 := eq_true p339; replace q339 := eq_true q339; have p340 : 0 ≤ (a3 : Int) := of_decide_eq_true (by first | (with_reducible assumption) | assumption); have q340 : a3 < (((rd_T43 l0_2 a2).f1).length : Int) := of_decide_eq_true (by first | (with_reducible assumption) | assumption); obtain ⟨ad340, A340_3, c340_3, A340_7, c340_7, e340, hx340_0, hx340_1, hx340_2, hx340_3, hx340_4, hx340_5, hx340_6, hx340_7, hl340_3, hi340_3, hl340_7, hi340_7⟩ := at_T47 HR339_1.out a3 p340 q340; cases e340; replace hx340_0 := (HB.out.cell (World.block_lt_of_cell? w _ hx340_0)).trans hx340_0; replace hx340_1 := (HB.out.cell (World.block_lt_of_cell? w _ hx340_1)).trans hx340_1; replace hx340_2 := (HB.out.cell (World.block_lt_of_cell? w _ hx340_2)).trans hx340_2; replace hx340_3 := (HB.out.cell (World.block_lt_of_cell? w _ hx340_3)).trans hx340_3; replace hx340_4 := (HB.out.cell (World.block_lt_of_cell? w _ hx340_4)).trans hx340_4; replace hx340_5 := (HB.out.cell (World.block_lt_of_cell? w _ hx340_5)).trans hx340_5; replace hx340_6 := (HB.out.cell (World.block_lt_of_cell? w _ hx340_6)).trans hx340_6; replace hx340_7 := (HB.out.cell (World.block_lt_of_cell? w _ hx340_7)).trans hx340_7; have HR340_3 := Aside0.mk hi340_3; have HC340_3 := Aside0.mk hl340_3; clear hi340_3 hl340_3; have HR340_7 := Aside0.mk hi340_7; have HC340_7 := Aside0.mk hl340_7; clear hi340_7 hl340_7; replace p340 := eq_true p340; replace q340 := eq_true q340) | ((with_reducible refine gate_dst (N := 9) rfl ?_); refine box_event ?hg (N := 9) ?hd (cs := #[.int .i64 0, .int .i64 0, .int .i64 0, .slice none 0 0, .int .i64 0, .int .i64 0, .int .i64 0, .slice none 0 0]) (t := 47) ?hr ?_; (case hd => rfl); (case hg => rfl); (case hr => first | (go_simp; done) | (go_simp; rfl)); intro gb341 hg w18 hbox hb; have n0_ := Aside0.mk (blk_below (g := gb338) (o := .cells #[.int .i64 a0_0, .int .i64 a0_1, .slice (some ad339) l0_2.length c0_2] 24 (0, 0)) (by (with_reducible repeat (first | refine blk_drewN ?_ _ | refine blk_drew ?_ | refine blk_alloc ?_ _)); exact BK338.out) hb); have n1_ := Aside0.mk (below_step (by repeat (first | (with_reducible first | exact HB.out | apply below_alloc | apply pw_below_drewN | apply below_drew1 | refine below_set ?_ GE338.out) | exact HB.out)) hb); have n2_ := Aside0.mk (hbox); have n3_ := Aside0.mk ((by rw [hg]; exact (below_size (by repeat (first | (with_reducible first | exact HB.out | apply below_alloc | apply pw_below_drewN | apply below_drew1 | refine below_set ?_ GE338.out) | exact HB.out))) : w.heap.size ≤ gb341)); have n4_ := Aside0.mk ((by rw [hg]; exact (below_size (by repeat (first | (with_reducible first | exact HB.out | apply below_alloc | apply pw_below_drewN | apply below_drew1 | refine below_set ?_ GE338.out) | exact HB.out))) : w.heap.size ≤ gb341)); have n5_ := Aside0.mk ((by rw [hg]; exact Nat.ne_of_lt (blk_lt (g := gb338) (o := .cells #[.int .i64 a0_0, .int .i64 a0_1, .slice (some ad339) l0_2.length c0_2] 24 (0, 0)) (by (with_reducible repeat (first | refine blk_drewN ?_ _ | refine blk_drew ?_ | refine blk_alloc ?_ _)); exact BK338.out)) : gb338 ≠ gb341)); have n6_ := Aside0.mk ((by rw [hg]; exact Nat.ne_of_gt (blk_lt (g := gb338) (o := .cells #[.int .i64 a0_0, .int .i64 a0_1, .slice (some ad339) l0_2.length c0_2] 24 (0, 0)) (by (with_reducible repeat (first | refine blk_drewN ?_ _ | refine blk_drew ?_ | refine blk_alloc ?_ _)); exact BK338.out)) : gb341 ≠ gb338)); clear BK338; clear HB; have BK338 := n0_; have HB := n1_; have BK341 := n2_; have GW341 := n3_; have GE341 := n4_; have NB338_341 := n5_; have NB341_338 := n6_; clear n0_ n1_ n2_ n3_ n4_ n5_ n6_; clear hb hbox hg; have hnb19 := NB341_338.out; have hnc19 := NB338_341.out; have hcz20_0 : w18.cell? ⟨gb341, 0, none⟩ = some (.int .i64 0) := (blk_cell BK341.out 0).trans rfl; have hcz20_1 : w18.cell? ⟨gb341, 1, none⟩ = some (.int .i64 0) := (blk_cell BK341.out 1).trans rfl; have hcz20_2 : w18.cell? ⟨gb341, 2, none⟩ = some (.int .i64 0) := (blk_cell BK341.out 2).trans rfl; have hcz20_3 : w18.cell? ⟨gb341, 3, none⟩ = some (.slice none 0 0) := (blk_cell BK341.out 3).trans rfl; have hcz20_4 : w18.cell? ⟨gb341, 4, none⟩ = some (.int .i64 0) := (blk_cell BK341.out 4).trans rfl; have hcz20_5 : w18.cell? ⟨gb341, 5, none⟩ = some (.int .i64 0) := (blk_cell BK341.out 5).trans rfl; have hcz20_6 : w18.cell? ⟨gb341, 6, none⟩ = some (.int .i64 0) := (blk_cell BK341.out 6).trans rfl; have hcz20_7 : w18.cell? ⟨gb341, 7, none⟩ = some (.slice none 0 0) := (blk_cell BK341.out 7).trans rfl; have hfz20_0 := blk_frozen BK341.out 0; have hfz20_1 := blk_frozen BK341.out 1; have hfz20_2 := blk_frozen BK341.out 2; have hfz20_3 := blk_frozen BK341.out 3; have hfz20_4 := blk_frozen BK341.out 4; have hfz20_5 := blk_frozen BK341.out 5; have hfz20_6 := blk_frozen BK341.out 6; have hfz20_7 := blk_frozen BK341.out 7))
                  have n0_ : Aside0 (((((((((w18.setCell ⟨gb341, 0, none⟩ (.int .i64 ((rd_T47 ((rd_T43 l0_2 a2).f1) a3).f0))).setCell ⟨gb341, 1, none⟩ (.int .i64 ((rd_T47 ((rd_T43 l0_2 a2).f1) a3).f1))).setCell ⟨gb341, 2, none⟩ (.int .i64 ((rd_T47 ((rd_T43 l0_2 a2).f1) a3).f2))).setCell ⟨gb341, 3, none⟩ (.slice A340_3 ((rd_T47 ((rd_T43 l0_2 a2).f1) a3).f3).length c340_3)).setCell ⟨gb341, 4, none⟩ (.int .i64 ((rd_T47 ((rd_T43 l0_2 a2).f1) a3).f4))).setCell ⟨gb341, 5, none⟩ (.int .i64 ((rd_T47 ((rd_T43 l0_2 a2).f1) a3).f5))).setCell ⟨gb341, 6, none⟩ (.int .i64 ((rd_T47 ((rd_T43 l0_2 a2).f1) a3).f6))).setCell ⟨gb341, 7, none⟩ (.slice A340_7 ((rd_T47 ((rd_T43 l0_2 a2).f1) a3).f7).length c340_7)).heap[gb338]? = some (.cells #[.int .i64 a0_0, .int .i64 a0_1, .slice (some ad339) l0_2.length c0_2] 24 (0, 0))) := ⟨by (with_reducible repeat (first | refine blk_drewN ?_ _ | refine blk_drew ?_ | refine blk_alloc ?_ _)); refine blk_far ?_ NB338_341.out _; (with_reducible repeat (first | refine blk_drewN ?_ _ | refine blk_drew ?_ | refine blk_alloc ?_ _)); refine blk_far ?_ NB338_341.out _; (with_reducible repeat (first | refine blk_drewN ?_ _ | refine blk_drew ?_ | refine blk_alloc ?_ _)); refine blk_far ?_ NB338_341.out _; (with_reducible repeat (first | refine blk_drewN ?_ _ | refine blk_drew ?_ | refine blk_alloc ?_ _)); refine blk_far ?_ NB338_341.out _; (with_reducible repeat (first | refine blk_drewN ?_ _ | refine blk_drew ?_ | refine blk_alloc ?_ _)); refine blk_far ?_ NB338_341.out _; (with_reducible repeat (first | refine blk_drewN ?_ _ | refine blk_drew ?_ | refine blk_alloc ?_ _)); refine blk_far ?_ NB338_341.out _; (with_reducible repeat (first | refine blk_drewN ?_ _ | refine blk_drew ?_ | refine blk_alloc ?_ _)); refine blk_far ?_ NB338_341.out _; (with_reducible repeat (first | refine blk_drewN ?_ _ | refine blk_drew ?_ | refine blk_alloc ?_ _)); refine blk_far ?_ NB338_341.out _; (with_reducible repeat (first | refine blk_drewN ?_ _ | refine blk_drew ?_ | refine blk_alloc ?_ _)); exact BK338.out⟩
                  have n1_ : Aside0 (((((((((w18.setCell ⟨gb341, 0, none⟩ (.int .i64 ((rd_T47 ((rd_T43 l0_2 a2).f1) a3).f0))).setCell ⟨gb341, 1, none⟩ (.int .i64 ((rd_T47 ((rd_T43 l0_2 a2).f1) a3).f1))).setCell ⟨gb341, 2, none⟩ (.int .i64 ((rd_T47 ((rd_T43 l0_2 a2).f1) a3).f2))).setCell ⟨gb341, 3, none⟩ (.slice A340_3 ((rd_T47 ((rd_T43 l0_2 a2).f1) a3).f3).length c340_3)).setCell ⟨gb341, 4, none⟩ (.int .i64 ((rd_T47 ((rd_T43 l0_2 a2).f1) a3).f4))).setCell ⟨gb341, 5, none⟩ (.int .i64 ((rd_T47 ((rd_T43 l0_2 a2).f1) a3).f5))).setCell ⟨gb341, 6, none⟩ (.int .i64 ((rd_T47 ((rd_T43 l0_2 a2).f1) a3).f6))).setCell ⟨gb341, 7, none⟩ (.slice A340_7 ((rd_T47 ((rd_T43 l0_2 a2).f1) a3).f7).length c340_7)).heap[gb341]? = some (.cells #[.int .i64 ((rd_T47 ((rd_T43 l0_2 a2).f1) a3).f0), .int .i64 ((rd_T47 ((rd_T43 l0_2 a2).f1) a3).f1), .int .i64 ((rd_T47 ((rd_T43 l0_2 a2).f1) a3).f2), .slice A340_3 ((rd_T47 ((rd_T43 l0_2 a2).f1) a3).f3).length c340_3, .int .i64 ((rd_T47 ((rd_T43 l0_2 a2).f1) a3).f4), .int .i64 ((rd_T47 ((rd_T43 l0_2 a2).f1) a3).f5), .int .i64 ((rd_T47 ((rd_T43 l0_2 a2).f1) a3).f6), .slice A340_7 ((rd_T47 ((rd_T43 l0_2 a2).f1) a3).f7).length c340_7] 47 (0, 0))) := ⟨by (with_reducible repeat (first | refine blk_drewN ?_ _ | refine blk_drew ?_ | refine blk_alloc ?_ _)); refine blk_put (cs := #[.int .i64 ((rd_T47 ((rd_T43 l0_2 a2).f1) a3).f0), .int .i64 ((rd_T47 ((rd_T43 l0_2 a2).f1) a3).f1), .int .i64 ((rd_T47 ((rd_T43 l0_2 a2).f1) a3).f2), .slice A340_3 ((rd_T47 ((rd_T43 l0_2 a2).f1) a3).f3).length c340_3, .int .i64 ((rd_T47 ((rd_T43 l0_2 a2).f1) a3).f4), .int .i64 ((rd_T47 ((rd_T43 l0_2 a2).f1) a3).f5), .int .i64 ((rd_T47 ((rd_T43 l0_2 a2).f1) a3).f6), .slice none 0 0]) ?_ 7 _ rfl; (with_reducible repeat (first | refine blk_drewN ?_ _ | refine blk_drew ?_ | refine blk_alloc ?_ _)); refine blk_put (cs := #[.int .i64 ((rd_T47 ((rd_T43 l0_2 a2).f1) a3).f0), .int .i64 ((rd_T47 ((rd_T43 l0_2 a2).f1) a3).f1), .int .i64 ((rd_T47 ((rd_T43 l0_2 a2).f1) a3).f2), .slice A340_3 ((rd_T47 ((rd_T43 l0_2 a2).f1) a3).f3).length c340_3, .int .i64 ((rd_T47 ((rd_T43 l0_2 a2).f1) a3).f4), .int .i64 ((rd_T47 ((rd_T43 l0_2 a2).f1) a3).f5), .int .i64 0, .slice none 0 0]) ?_ 6 _ rfl; (with_reducible repeat (first | refine blk_drewN ?_ _ | refine blk_drew ?_ | refine blk_alloc ?_ _)); refine blk_put (cs := #[.int .i64 ((rd_T47 ((rd_T43 l0_2 a2).f1) a3).f0), .int .i64 ((rd_T47 ((rd_T43 l0_2 a2).f1) a3).f1), .int .i64 ((rd_T47 ((rd_T43 l0_2 a2).f1) a3).f2), .slice A340_3 ((rd_T47 ((rd_T43 l0_2 a2).f1) a3).f3).length c340_3, .int .i64 ((rd_T47 ((rd_T43 l0_2 a2).f1) a3).f4), .int .i64 0, .int .i64 0, .slice none 0 0]) ?_ 5 _ rfl; (with_reducible repeat (first | refine blk_drewN ?_ _ | refine blk_drew ?_ | refine blk_alloc ?_ _)); refine blk_put (cs := #[.int .i64 ((rd_T47 ((rd_T43 l0_2 a2).f1) a3).f0), .int .i64 ((rd_T47 ((rd_T43 l0_2 a2).f1) a3).f1), .int .i64 ((rd_T47 ((rd_T43 l0_2 a2).f1) a3).f2), .slice A340_3 ((rd_T47 ((rd_T43 l0_2 a2).f1) a3).f3).length c340_3, .int .i64 0, .int .i64 0, .int .i64 0, .slice none 0 0]) ?_ 4 _ rfl; (with_reducible repeat (first | refine blk_drewN ?_ _ | refine blk_drew ?_ | refine blk_alloc ?_ _)); refine blk_put (cs := #[.int .i64 ((rd_T47 ((rd_T43 l0_2 a2).f1) a3).f0), .int .i64 ((rd_T47 ((rd_T43 l0_2 a2).f1) a3).f1), .int .i64 ((rd_T47 ((rd_T43 l0_2 a2).f1) a3).f2), .slice none 0 0, .int .i64 0, .int .i64 0, .int .i64 0, .slice none 0 0]) ?_ 3 _ rfl; (with_reducible repeat (first | refine blk_drewN ?_ _ | refine blk_drew ?_ | refine blk_alloc ?_ _)); refine blk_put (cs := #[.int .i64 ((rd_T47 ((rd_T43 l0_2 a2).f1) a3).f0), .int .i64 ((rd_T47 ((rd_T43 l0_2 a2).f1) a3).f1), .int .i64 0, .slice none 0 0, .int .i64 0, .int .i64 0, .int .i64 0, .slice none 0 0]) ?_ 2 _ rfl; (with_reducible repeat (first | refine blk_drewN ?_ _ | refine blk_drew ?_ | refine blk_alloc ?_ _)); refine blk_put (cs := #[.int .i64 ((rd_T47 ((rd_T43 l0_2 a2).f1) a3).f0), .int .i64 0, .int .i64 0, .slice none 0 0, .int .i64 0, .int .i64 0, .int .i64 0, .slice none 0 0]) ?_ 1 _ rfl; (with_reducible repeat (first | refine blk_drewN ?_ _ | refine blk_drew ?_ | refine blk_alloc ?_ _)); refine blk_put (cs := #[.int .i64 0, .int .i64 0, .int .i64 0, .slice none 0 0, .int .i64 0, .int .i64 0, .int .i64 0, .slice none 0 0]) ?_ 0 _ rfl; (with_reducible repeat (first | refine blk_drewN ?_ _ | refine blk_drew ?_ | refine blk_alloc ?_ _)); exact BK341.out⟩
                  have n2_ : Aside0 (Below w.heap.size w ((((((((w18.setCell ⟨gb341, 0, none⟩ (.int .i64 ((rd_T47 ((rd_T43 l0_2 a2).f1) a3).f0))).setCell ⟨gb341, 1, none⟩ (.int .i64 ((rd_T47 ((rd_T43 l0_2 a2).f1) a3).f1))).setCell ⟨gb341, 2, none⟩ (.int .i64 ((rd_T47 ((rd_T43 l0_2 a2).f1) a3).f2))).setCell ⟨gb341, 3, none⟩ (.slice A340_3 ((rd_T47 ((rd_T43 l0_2 a2).f1) a3).f3).length c340_3)).setCell ⟨gb341, 4, none⟩ (.int .i64 ((rd_T47 ((rd_T43 l0_2 a2).f1) a3).f4))).setCell ⟨gb341, 5, none⟩ (.int .i64 ((rd_T47 ((rd_T43 l0_2 a2).f1) a3).f5))).setCell ⟨gb341, 6, none⟩ (.int .i64 ((rd_T47 ((rd_T43 l0_2 a2).f1) a3).f6))).setCell ⟨gb341, 7, none⟩ (.slice A340_7 ((rd_T47 ((rd_T43 l0_2 a2).f1) a3).f7).length c340_7))) := ⟨by repeat (first | (with_reducible first | exact HB.out | apply below_alloc | apply pw_below_drewN | apply below_drew1 | refine below_set ?_ GE338.out | refine below_set ?_ GE341.out) | exact HB.out)⟩
                  (try clear BK338)
                  (try clear BK341)
                  (try clear HB)
                  generalize ((((((((w18.setCell ⟨gb341, 0, none⟩ (.int .i64 ((rd_T47 ((rd_T43 l0_2 a2).f1) a3).f0))).setCell ⟨gb341, 1, none⟩ (.int .i64 ((rd_T47 ((rd_T43 l0_2 a2).f1) a3).f1))).setCell ⟨gb341, 2, none⟩ (.int .i64 ((rd_T47 ((rd_T43 l0_2 a2).f1) a3).f2))).setCell ⟨gb341, 3, none⟩ (.slice A340_3 ((rd_T47 ((rd_T43 l0_2 a2).f1) a3).f3).length c340_3)).setCell ⟨gb341, 4, none⟩ (.int .i64 ((rd_T47 ((rd_T43 l0_2 a2).f1) a3).f4))).setCell ⟨gb341, 5, none⟩ (.int .i64 ((rd_T47 ((rd_T43 l0_2 a2).f1) a3).f5))).setCell ⟨gb341, 6, none⟩ (.int .i64 ((rd_T47 ((rd_T43 l0_2 a2).f1) a3).f6))).setCell ⟨gb341, 7, none⟩ (.slice A340_7 ((rd_T47 ((rd_T43 l0_2 a2).f1) a3).f7).length c340_7)) = w21 at n0_ n1_ n2_ ⊢
                  have BK338 := n0_
                  have BK341 := n1_
                  have HB := n2_
                  clear n0_ n1_ n2_
                  have n0_ := Aside0.mk (blk_drew BK338.out)
                  have n1_ := Aside0.mk (blk_drew BK341.out)
                  have n2_ := Aside0.mk (below_drew1 HB.out)
                  clear BK338
                  clear BK341
                  clear HB
                  have BK338 := n0_
                  have BK341 := n1_
                  have HB := n2_
                  clear n0_ n1_ n2_
                  have p343 : 0 ≤ (a2 : Int) := of_decide_eq_true (by first | (with_reducible assumption) | assumption)
                  have q343 : a2 < (l1.length : Int) := of_decide_eq_true (by first | (with_reducible assumption) | assumption)
                  obtain ⟨ad343, A343_0, c343_0, e343, hx343_0, hl343_0, hi343_0⟩ := at_L11 HR1.out a2 p343 q343
                  have hw343_0 := hx343_0
                  cases e343
                  replace hx343_0 := (HB.out.cell (World.block_lt_of_cell? w _ hx343_0)).trans hx343_0
                  have HR343_0 := Aside0.mk hi343_0
                  have HC343_0 := Aside0.mk hl343_0
                  clear hi343_0 hl343_0
                  replace p343 := eq_true p343
                  replace q343 := eq_true q343
                  have p344 : 0 ≤ ((ji12) : Int) := of_decide_eq_true (by first | (with_reducible assumption) | assumption)
                  have q344 : (ji12) < ((rd_L11 l1 a2).length : Int) := of_decide_eq_true (by first | (with_reducible assumption) | assumption)
                  obtain ⟨ad344, A344_0, c344_0, e344, hx344_0, hl344_0, hi344_0⟩ := at_L10 HR343_0.out (ji12) p344 q344
                  have hw344_0 := hx344_0
                  cases e344
                  replace hx344_0 := (HB.out.cell (World.block_lt_of_cell? w _ hx344_0)).trans hx344_0
                  have HR344_0 := Aside0.mk hi344_0
                  have HC344_0 := Aside0.mk hl344_0
                  clear hi344_0 hl344_0
                  replace p344 := eq_true p344
                  replace q344 := eq_true q344
                  refine start_ (n := 17) (S := fun w' => w'.cell? ⟨gb341, 0, none⟩ = some (.int .i64 ((rd_T47 ((rd_T43 l0_2 a2).f1) a3).f0)) ∧ w'.cell? ⟨gb341, 1, none⟩ = some (.int .i64 ((rd_T47 ((rd_T43 l0_2 a2).f1) a3).f1)) ∧ w'.cell? ⟨gb341, 2, none⟩ = some (.int .i64 ((rd_T47 ((rd_T43 l0_2 a2).f1) a3).f2)) ∧ w'.cell? ⟨gb341, 3, none⟩ = some (.slice A340_3 ((rd_T47 ((rd_T43 l0_2 a2).f1) a3).f3).length c340_3) ∧ w'.cell? ⟨gb341, 4, none⟩ = some (.int .i64 ((rd_T47 ((rd_T43 l0_2 a2).f1) a3).f4)) ∧ w'.cell? ⟨gb341, 5, none⟩ = some (.int .i64 ((rd_T47 ((rd_T43 l0_2 a2).f1) a3).f5)) ∧ w'.cell? ⟨gb341, 6, none⟩ = some (.int .i64 ((rd_T47 ((rd_T43 l0_2 a2).f1) a3).f6)) ∧ w'.cell? ⟨gb341, 7, none⟩ = some (.slice A340_7 ((rd_T47 ((rd_T43 l0_2 a2).f1) a3).f7).length c340_7) ∧ w'.cell? (ad343.add (a2).toNat) = some (.slice (some ad344) (rd_L11 l1 a2).length c343_0) ∧ w'.cell? (ad344.add ((ji12)).toNat) = some (.slice A344_0 (rd_L10 (rd_L11 l1 a2) (ji12)).length c344_0)) (ds := []) #[false, false, false, false, false, false, false, false, false, false, false, false, false, false, false, false, false] (by kernel_rfl) rfl rfl ⟨(blk_cell BK341.out 0).trans rfl, (blk_cell BK341.out 1).trans rfl, (blk_cell BK341.out 2).trans rfl, (blk_cell BK341.out 3).trans rfl, (blk_cell BK341.out 4).trans rfl, (blk_cell BK341.out 5).trans rfl, (blk_cell BK341.out 6).trans rfl, (blk_cell BK341.out 7).trans rfl, ((HB.out.cell (World.block_lt_of_cell? w _ hw343_0)).trans hw343_0), ((HB.out.cell (World.block_lt_of_cell? w _ hw344_0)).trans hw344_0)⟩ (fun hHeld => ?_); refine with_tabW portageref24_Idle.tab2 portageref24_Idle.bits2 (fun HT_ HW_ => ?_)
                  generalize w21.drew = w22 at BK338 BK341 HB HR343_0 HR344_0 hx343_0 hx344_0 hHeld ⊢
                  refine take_ (i := 0) (N := some 19) (v := ?_) (a' := ?_) #[true, false, false, false, false, false, false, false, false, false, false, false, false, false, false, false, false] rfl rfl (take_ofW HT_.out HW_.out (by kernel_rfl)) (fun _ _ _ h => h) (Or.inl ⟨by rfl, ?_⟩) hHeld ?_ ?_
                  rotate_left
                  · rintro w' ⟨s0, s1, s2, s3, s4, s5, s6, s7, s8, s9⟩
                    go_simp
                    with_reducible rfl
                  rotate_left
                  · simp only [Act.put, List.setIfInBounds_toArray, List.set_cons_zero, List.set_cons_succ, i64_w, i32_w]
                    rfl
                  refine one_ (i := 1) (N := some 20) #[true, true, false, false, false, false, false, false, false, false, false, false, false, false, false, false, false] rfl rfl (one_of HT_.out (by kernel_rfl)) (by decide) (fun K hK => ?_)
                  refine goes_ Try.func56 (by kernel_rfl) rfl #[.agg #[.int .i64 ((rd_T47 ((rd_T43 l0_2 a2).f1) a3).f0), .int .i64 ((rd_T47 ((rd_T43 l0_2 a2).f1) a3).f1), .int .i64 ((rd_T47 ((rd_T43 l0_2 a2).f1) a3).f2), .slice A340_3 ((rd_T47 ((rd_T43 l0_2 a2).f1) a3).f3).length c340_3, .int .i64 ((rd_T47 ((rd_T43 l0_2 a2).f1) a3).f4), .int .i64 ((rd_T47 ((rd_T43 l0_2 a2).f1) a3).f5), .int .i64 ((rd_T47 ((rd_T43 l0_2 a2).f1) a3).f6), .slice A340_7 ((rd_T47 ((rd_T43 l0_2 a2).f1) a3).f7).length c340_7]] (by rfl) rfl rfl (by (try simp only [List.map_toArray, List.map_cons, List.map_nil]); first | done | rfl | (simp only [List.length_drop, List.length_take]; rfl)) ?_
                  with_reducible refine (portageref24_quiet.calls ((rd_T47 ((rd_T43 l0_2 a2).f1) a3).f0) ((rd_T47 ((rd_T43 l0_2 a2).f1) a3).f1) ((rd_T47 ((rd_T43 l0_2 a2).f1) a3).f2) _ _ ((rd_T47 ((rd_T43 l0_2 a2).f1) a3).f3) ((rd_T47 ((rd_T43 l0_2 a2).f1) a3).f4) ((rd_T47 ((rd_T43 l0_2 a2).f1) a3).f5) ((rd_T47 ((rd_T43 l0_2 a2).f1) a3).f6) _ _ ((rd_T47 ((rd_T43 l0_2 a2).f1) a3).f7) true _ ?side1 ?side2 ?side3 ?side4 A9.out).mono ?_
                  (case side1 => repeat (first | exact (Kd.C_below HR340_3.out HB.out) | (with_reducible refine Kd.C_alloc ?_ _) | (with_reducible refine Kd.C_drewN ?_ _) | (with_reducible refine Kd.C_drew ?_)))
                  (case side2 => exact HC340_3.out)
                  (case side3 => repeat (first | exact (Kd.C_below HR340_7.out HB.out) | (with_reducible refine Kd.C_alloc ?_ _) | (with_reducible refine Kd.C_drewN ?_ _) | (with_reducible refine Kd.C_drew ?_)))
                  (case side4 => exact HC340_7.out)
                  rintro e w23 ⟨rfl, hb⟩
                  refine ⟨_, rfl, ?_⟩
                  have n0_ := Aside0.mk (blk_below (g := gb338) (o := .cells #[.int .i64 a0_0, .int .i64 a0_1, .slice (some ad339) l0_2.length c0_2] 24 (0, 0)) (by (with_reducible repeat (first | refine blk_drewN ?_ _ | refine blk_drew ?_ | refine blk_alloc ?_ _)); exact BK338.out) hb)
                  have n1_ := Aside0.mk (blk_below (g := gb341) (o := .cells #[.int .i64 ((rd_T47 ((rd_T43 l0_2 a2).f1) a3).f0), .int .i64 ((rd_T47 ((rd_T43 l0_2 a2).f1) a3).f1), .int .i64 ((rd_T47 ((rd_T43 l0_2 a2).f1) a3).f2), .slice A340_3 ((rd_T47 ((rd_T43 l0_2 a2).f1) a3).f3).length c340_3, .int .i64 ((rd_T47 ((rd_T43 l0_2 a2).f1) a3).f4), .int .i64 ((rd_T47 ((rd_T43 l0_2 a2).f1) a3).f5), .int .i64 ((rd_T47 ((rd_T43 l0_2 a2).f1) a3).f6), .slice A340_7 ((rd_T47 ((rd_T43 l0_2 a2).f1) a3).f7).length c340_7] 47 (0, 0)) (by (with_reducible repeat (first | refine blk_drewN ?_ _ | refine blk_drew ?_ | refine blk_alloc ?_ _)); exact BK341.out) hb)
                  have n2_ := Aside0.mk (below_step (by repeat (first | (with_reducible first | exact HB.out | apply below_alloc | apply pw_below_drewN | apply below_drew1 | refine below_set ?_ GE338.out | refine below_set ?_ GE341.out) | exact HB.out)) hb)
                  clear BK338
                  clear BK341
                  clear HB
                  have BK338 := n0_
                  have BK341 := n1_
                  have HB := n2_
                  clear n0_ n1_ n2_
                  (try clear hb)
                  (try clear hb2)
                  (try clear hk)
                  (try clear hi)
                  refine hK.out _ _ ⟨(blk_cell BK341.out 0).trans rfl, (blk_cell BK341.out 1).trans rfl, (blk_cell BK341.out 2).trans rfl, (blk_cell BK341.out 3).trans rfl, (blk_cell BK341.out 4).trans rfl, (blk_cell BK341.out 5).trans rfl, (blk_cell BK341.out 6).trans rfl, (blk_cell BK341.out 7).trans rfl, ((HB.out.cell (World.block_lt_of_cell? w _ hw343_0)).trans hw343_0), ((HB.out.cell (World.block_lt_of_cell? w _ hw344_0)).trans hw344_0)⟩ (fun hHeld => ?_)
                  clear hK K
                  refine norm_ (a' := ?_) ?_ ?_
                  rotate_left
                  · show Act.put _ (some 20) _ = _
                    simp only [Act.put, List.setIfInBounds_toArray, List.set_cons_zero, List.set_cons_succ, i64_w, i32_w]
                    rfl
                  refine pure_ (i := 2) (N := some 21) (v := ?_) (a' := ?_) #[true, true, true, false, false, false, false, false, false, false, false, false, false, false, false, false, false] rfl rfl (any_of HT_.out (by kernel_rfl)) (fun _ _ _ h => h) (Or.inl ⟨by rfl, ?_⟩) ?_ ?_
                  rotate_left
                  · intro w'
                    go_simp
                    with_reducible rfl
                  rotate_left
                  · simp only [Act.put, List.setIfInBounds_toArray, List.set_cons_zero, List.set_cons_succ, i64_w, i32_w]
                    rfl
                  refine pure_ (i := 3) (N := some 22) (v := ?_) (a' := ?_) #[true, true, true, true, false, false, false, false, false, false, false, false, false, false, false, false, false] rfl rfl (any_of HT_.out (by kernel_rfl)) (fun _ _ _ h => h) (Or.inl ⟨by rfl, ?_⟩) ?_ ?_
                  rotate_left
                  · intro w'
                    go_simp
                    with_reducible rfl
                  rotate_left
                  · simp only [Act.put, List.setIfInBounds_toArray, List.set_cons_zero, List.set_cons_succ, i64_w, i32_w]
                    rfl
                  refine pure_ (i := 4) (N := some 23) (v := ?_) (a' := ?_) #[true, true, true, true, true, false, false, false, false, false, false, false, false, false, false, false, false] rfl rfl (any_of HT_.out (by kernel_rfl)) (fun _ _ _ h => h) (Or.inl ⟨by rfl, ?_⟩) ?_ ?_
                  rotate_left
                  · intro w'
                    go_simp
                    with_reducible rfl
                  rotate_left
                  · simp only [Act.put, List.setIfInBounds_toArray, List.set_cons_zero, List.set_cons_succ, i64_w, i32_w]
                    rfl
                  refine pure_ (i := 5) (N := some 24) (v := ?_) (a' := ?_) #[true, true, true, true, true, true, false, false, false, false, false, false, false, false, false, false, false] rfl rfl (any_of HT_.out (by kernel_rfl)) (fun _ _ _ h => h) (Or.inl ⟨by rfl, ?_⟩) ?_ ?_
                  rotate_left
                  · intro w'
                    go_simp
                    with_reducible rfl
                  rotate_left
                  · simp only [Act.put, List.setIfInBounds_toArray, List.set_cons_zero, List.set_cons_succ, i64_w, i32_w]
                    rfl
                  refine pure_ (i := 7) (N := some 26) (v := ?_) (a' := ?_) #[true, true, true, true, true, true, false, true, false, false, false, false, false, false, false, false, false] rfl rfl (any_of HT_.out (by kernel_rfl)) (fun _ _ _ h => h) (Or.inl ⟨by rfl, ?_⟩) ?_ ?_
                  rotate_left
                  · intro w'
                    go_simp
                    with_reducible rfl
                  rotate_left
                  · simp only [Act.put, List.setIfInBounds_toArray, List.set_cons_zero, List.set_cons_succ, i64_w, i32_w]
                    rfl
                  refine pure_ (i := 8) (N := some 27) (v := ?_) (a' := ?_) #[true, true, true, true, true, true, false, true, true, false, false, false, false, false, false, false, false] rfl rfl (any_of HT_.out (by kernel_rfl)) (fun _ _ _ h => h) (Or.inl ⟨by rfl, ?_⟩) ?_ ?_
                  rotate_left
                  · intro w'
                    go_simp
                    with_reducible rfl
                  rotate_left
                  · simp only [Act.put, List.setIfInBounds_toArray, List.set_cons_zero, List.set_cons_succ, i64_w, i32_w]
                    rfl
                  refine pure_ (i := 11) (N := some 30) (v := ?_) (a' := ?_) #[true, true, true, true, true, true, false, true, true, false, false, true, false, false, false, false, false] rfl rfl (any_of HT_.out (by kernel_rfl)) (fun _ _ _ h => h) (Or.inl ⟨by rfl, ?_⟩) ?_ ?_
                  rotate_left
                  · intro w'
                    go_simp
                    with_reducible rfl
                  rotate_left
                  · simp only [Act.put, List.setIfInBounds_toArray, List.set_cons_zero, List.set_cons_succ, i64_w, i32_w]
                    rfl
                  refine take_ (i := 6) (N := some 25) (v := ?_) (a' := ?_) #[true, true, true, true, true, true, true, true, true, false, false, true, false, false, false, false, false] rfl rfl (take_ofW HT_.out HW_.out (by kernel_rfl)) (fun _ _ _ h => h) (Or.inl ⟨by rfl, ?_⟩) hHeld ?_ ?_
                  rotate_left
                  · rintro w' ⟨s0, s1, s2, s3, s4, s5, s6, s7, s8, s9⟩
                    go_simp
                    with_reducible rfl
                  rotate_left
                  · simp only [Act.put, List.setIfInBounds_toArray, List.set_cons_zero, List.set_cons_succ, i64_w, i32_w]
                    rfl
                  refine pure_ (i := 9) (N := some 28) (v := ?_) (a' := ?_) #[true, true, true, true, true, true, true, true, true, true, false, true, false, false, false, false, false] rfl rfl (any_of HT_.out (by kernel_rfl)) (fun _ _ _ h => h) (Or.inl ⟨by rfl, ?_⟩) ?_ ?_
                  rotate_left
                  · intro w'
                    go_simp
                    with_reducible rfl
                  rotate_left
                  · simp only [Act.put, List.setIfInBounds_toArray, List.set_cons_zero, List.set_cons_succ, i64_w, i32_w]
                    rfl
                  refine take_ (i := 10) (N := some 29) (v := ?_) (a' := ?_) #[true, true, true, true, true, true, true, true, true, true, true, true, false, false, false, false, false] rfl rfl (take_ofW HT_.out HW_.out (by kernel_rfl)) (fun _ _ _ h => h) (Or.inl ⟨by rfl, ?_⟩) hHeld ?_ ?_
                  rotate_left
                  · rintro w' ⟨s0, s1, s2, s3, s4, s5, s6, s7, s8, s9⟩
                    go_simp
                    with_reducible rfl
                  rotate_left
                  · simp only [Act.put, List.setIfInBounds_toArray, List.set_cons_zero, List.set_cons_succ, i64_w, i32_w]
                    rfl
                  refine take_ (i := 12) (N := some 31) (v := ?_) (a' := ?_) #[true, true, true, true, true, true, true, true, true, true, true, true, true, false, false, false, false] rfl rfl (take_ofW HT_.out HW_.out (by kernel_rfl)) (fun _ _ _ h => h) (Or.inl ⟨by rfl, ?_⟩) hHeld ?_ ?_
                  rotate_left
                  · rintro w' ⟨s0, s1, s2, s3, s4, s5, s6, s7, s8, s9⟩
                    go_simp
                    with_reducible rfl
                  rotate_left
                  · simp only [Act.put, List.setIfInBounds_toArray, List.set_cons_zero, List.set_cons_succ, i64_w, i32_w]
                    rfl
                  refine one_ (i := 13) (N := some 32) #[true, true, true, true, true, true, true, true, true, true, true, true, true, true, false, false, false] rfl rfl (one_of HT_.out (by kernel_rfl)) (by decide) (fun K hK => ?_)
                  refine goes_ Try.func57 (by kernel_rfl) rfl #[.slice A344_0 (rd_L10 (rd_L11 l1 a2) (ji12)).length c344_0, .int .i64 ((rd_T47 ((rd_T43 l0_2 a2).f1) a3).f2)] (by rfl) rfl rfl (by (try simp only [List.map_toArray, List.map_cons, List.map_nil]); first | done | (simp only [hji12]; rfl) | rfl | (simp only [List.length_drop, List.length_take]; rfl)) ?_
                  with_reducible refine (portageref24_in.calls _ _ (rd_L10 (rd_L11 l1 a2) (ji12)) ((rd_T47 ((rd_T43 l0_2 a2).f1) a3).f2) t345 _ ?side1 ?side2 A15.out).mono ?_
                  (case side1 => repeat (first | exact (Kd.C_below HR344_0.out HB.out) | (with_reducible refine Kd.C_alloc ?_ _) | (with_reducible refine Kd.C_drewN ?_ _) | (with_reducible refine Kd.C_drew ?_)))
                  (case side2 => exact HC344_0.out)
                  rintro e w' ⟨rfl, ⟨nd, rfl⟩⟩
                  refine ⟨_, rfl, ?_⟩
                  refine hK.out _ _ ⟨(blk_cell BK341.out 0).trans rfl, (blk_cell BK341.out 1).trans rfl, (blk_cell BK341.out 2).trans rfl, (blk_cell BK341.out 3).trans rfl, (blk_cell BK341.out 4).trans rfl, (blk_cell BK341.out 5).trans rfl, (blk_cell BK341.out 6).trans rfl, (blk_cell BK341.out 7).trans rfl, ((HB.out.cell (World.block_lt_of_cell? w _ hw343_0)).trans hw343_0), ((HB.out.cell (World.block_lt_of_cell? w _ hw344_0)).trans hw344_0)⟩ (fun hHeld => ?_)
                  clear hK K
                  refine norm_ (a' := ?_) ?_ ?_
                  rotate_left
                  · show Act.put _ (some 32) _ = _
                    simp only [Act.put, List.setIfInBounds_toArray, List.set_cons_zero, List.set_cons_succ, i64_w, i32_w]
                    rfl
                  refine pure_ (i := 14) (N := some 33) (v := ?_) (a' := ?_) #[true, true, true, true, true, true, true, true, true, true, true, true, true, true, true, false, false] rfl rfl (any_of HT_.out (by kernel_rfl)) (fun _ _ _ h => h) (Or.inl ⟨by rfl, ?_⟩) ?_ ?_
                  rotate_left
                  · intro w'
                    go_simp
                    with_reducible rfl
                  rotate_left
                  · simp only [Act.put, List.setIfInBounds_toArray, List.set_cons_zero, List.set_cons_succ, i64_w, i32_w]
                    rfl
                  refine pure_ (i := 15) (N := some 34) (v := ?_) (a' := ?_) #[true, true, true, true, true, true, true, true, true, true, true, true, true, true, true, true, false] rfl rfl (any_of HT_.out (by kernel_rfl)) (fun _ _ _ h => h) (Or.inl ⟨by rfl, ?_⟩) ?_ ?_
                  rotate_left
                  · intro w'
                    go_simp
                    with_reducible rfl
                  rotate_left
                  · simp only [Act.put, List.setIfInBounds_toArray, List.set_cons_zero, List.set_cons_succ, i64_w, i32_w]
                    rfl
                  refine pure_ (i := 16) (N := some 8) (v := ?_) (a' := ?_) #[true, true, true, true, true, true, true, true, true, true, true, true, true, true, true, true, true] rfl rfl (any_of HT_.out (by kernel_rfl)) (fun _ _ _ h => h) (Or.inl ⟨by rfl, ?_⟩) ?_ ?_
                  rotate_left
                  · intro w'
                    go_simp
                    with_reducible rfl
                  rotate_left
                  · simp only [Act.put, List.setIfInBounds_toArray, List.set_cons_zero, List.set_cons_succ, i64_w, i32_w]
                    rfl
                  refine done_ (done_of HT_.out (by kernel_rfl)) ?_
                  try go_wp2
                  go_ret
                  exact ⟨by first | rfl | (simp [errW_none, errW_some] <;> rfl) | (simp only [← hji12]; first | rfl | (simp [errW_none, errW_some] <;> rfl)) | (simp [*, errW_none, errW_some] <;> rfl), by repeat (first | (with_reducible first | exact HB.out | apply below_alloc | apply pw_below_drewN | apply below_drew1 | refine below_set ?_ GE338.out | refine below_set ?_ GE341.out) | exact HB.out)⟩
                · rw [if_neg c14] at H
                  exact absurd H (by simp)
              · rw [if_neg c13] at H
                exact absurd H (by simp)
            · rw [if_neg c11] at H
              exact absurd H (by simp)
          · replace c10 := Bool.eq_false_iff.mpr c10
            subst c10
            have H1 : (some false) = some r := by rw [if_neg (show ¬ (false = true) by decide)] at H; exact H
            clear H
            have H := H1
            clear H1
            obtain rfl := Option.some.inj H
            go_enter Try.func34, Try.ntmps34
            try go_wp2_with (first | ((with_reducible refine gate_dst (N := 4) rfl ?_); refine box_event ?hg (N := 4) ?hd (cs := #[.int .i64 a0_0, .int .i64 a0_1, .slice A0_2 l0_2.length c0_2]) (t := 24) ?hr ?_; (case hd => rfl); (case hg => rfl); (case hr => first | (go_simp; done) | (go_simp; rfl)); intro gb338 hg w24 hbox hb; have n0_ := Aside0.mk (below_step (by repeat (first | (with_reducible first | exact HB.out | apply below_alloc | apply pw_below_drewN | apply below_drew1) | exact HB.out)) hb); have n1_ := Aside0.mk (hbox); have n2_ := Aside0.mk ((by rw [hg]; exact (below_size (by repeat (first | (with_reducible first | exact HB.out | apply below_alloc | apply pw_below_drewN | apply below_drew1) | exact HB.out))) : w.heap.size ≤ gb338)); have n3_ := Aside0.mk ((by rw [hg]; exact (below_size (by repeat (first | (with_reducible first | exact HB.out | apply below_alloc | apply pw_below_drewN | apply below_drew1) | exact HB.out))) : w.heap.size ≤ gb338)); clear HB; have HB := n0_; have BK338 := n1_; have GW338 := n2_; have GE338 := n3_; clear n0_ n1_ n2_ n3_; clear hb hbox hg; have hcz25_0 : w24.cell? ⟨gb338, 0, none⟩ = some (.int .i64 a0_0) := (blk_cell BK338.out 0).trans rfl; have hcz25_1 : w24.cell? ⟨gb338, 1, none⟩ = some (.int .i64 a0_1) := (blk_cell BK338.out 1).trans rfl; have hcz25_2 : w24.cell? ⟨gb338, 2, none⟩ = some (.slice A0_2 l0_2.length c0_2) := (blk_cell BK338.out 2).trans rfl; have hfz25_0 := blk_frozen BK338.out 0; have hfz25_1 := blk_frozen BK338.out 1; have hfz25_2 := blk_frozen BK338.out 2; have p339 : 0 ≤ (a2 : Int) := of_decide_eq_true (by first | (with_reducible assumption) | assumption); have q339 : a2 < (l0_2.length : Int) := of_decide_eq_true (by first | (with_reducible assumption) | assumption); obtain ⟨ad339, A339_1, c339_1, A339_2, c339_2, e339, hx339_0, hx339_1, hx339_2, hl339_1, hi339_1, hl339_2, hi339_2⟩ := at_T43 HR0_2.out a2 p339 q339; cases e339; replace hx339_0 := (HB.out.cell (World.block_lt_of_cell? w _ hx339_0)).trans hx339_0; replace hx339_1 := (HB.out.cell (World.block_lt_of_cell? w _ hx339_1)).trans hx339_1; replace hx339_2 := (HB.out.cell (World.block_lt_of_cell? w _ hx339_2)).trans hx339_2; have HR339_1 := Aside0.mk hi339_1; have HC339_1 := Aside0.mk hl339_1; clear hi339_1 hl339_1; have HR339_2 := Aside0.mk hi339_2; have HC339_2 := Aside0.mk hl339_2; clear hi339_2 hl339_2; replace p339 := eq_true p339; replace q339 := eq_true q339; have p340 : 0 ≤ (a3 : Int) := of_decide_eq_true (by first | (with_reducible assumption) | assumption); have q340 : a3 < (((rd_T43 l0_2 a2).f1).length : Int) := of_decide_eq_true (by first | (with_reducible assumption) | assumption); obtain ⟨ad340, A340_3, c340_3, A340_7, c340_7, e340, hx340_0, hx340_1, hx340_2, hx340_3, hx340_4, hx340_5, hx340_6, hx340_7, hl340_3, hi340_3, hl340_7, hi340_7⟩ := at_T47 HR339_1.out a3 p340 q340; cases e340; replace hx340_0 := (HB.out.cell (World.block_lt_of_cell? w _ hx340_0)).trans hx340_0; replace hx340_1 := (HB.out.cell (World.block_lt_of_cell? w _ hx340_1)).trans hx340_1; replace hx340_2 := (HB.out.cell (World.block_lt_of_cell? w _ hx340_2)).trans hx340_2; replace hx340_3 := (HB.out.cell (World.block_lt_of_cell? w _ hx340_3)).trans hx340_3; replace hx340_4 := (HB.out.cell (World.block_lt_of_cell? w _ hx340_4)).trans hx340_4; replace hx340_5 := (HB.out.cell (World.block_lt_of_cell? w _ hx340_5)).trans hx340_5; replace hx340_6 := (HB.out.cell (World.block_lt_of_cell? w _ hx340_6)).trans hx340_6; replace hx340_7 := (HB.out.cell (World.block_lt_of_cell? w _ hx340_7)).trans hx340_7; have HR340_3 := Aside0.mk hi340_3; have HC340_3 := Aside0.mk hl340_3; clear hi340_3 hl340_3; have HR340_7 := Aside0.mk hi340_7; have HC340_7 := Aside0.mk hl340_7; clear hi340_7 hl340_7; replace p340 := eq_true p340; replace q340 := eq_true q340) | ((with_reducible refine gate_dst (N := 9) rfl ?_); refine box_event ?hg (N := 9) ?hd (cs := #[.int .i64 0, .int .i64 0, .int .i64 0, .slice none 0 0, .int .i64 0, .int .i64 0, .int .i64 0, .slice none 0 0]) (t := 47) ?hr ?_; (case hd => rfl); (case hg => rfl); (case hr => first | (go_simp; done) | (go_simp; rfl)); intro gb341 hg w26 hbox hb; have n0_ := Aside0.mk (blk_below (g := gb338) (o := .cells #[.int .i64 a0_0, .int .i64 a0_1, .slice (some ad339) l0_2.length c0_2] 24 (0, 0)) (by (with_reducible repeat (first | refine blk_drewN ?_ _ | refine blk_drew ?_ | refine blk_alloc ?_ _)); exact BK338.out) hb); have n1_ := Aside0.mk (below_step (by repeat (first | (with_reducible first | exact HB.out | apply below_alloc | apply pw_below_drewN | apply below_drew1 | refine below_set ?_ GE338.out) | exact HB.out)) hb); have n2_ := Aside0.mk (hbox); have n3_ := Aside0.mk ((by rw [hg]; exact (below_size (by repeat (first | (with_reducible first | exact HB.out | apply below_alloc | apply pw_below_drewN | apply below_drew1 | refine below_set ?_ GE338.out) | exact HB.out))) : w.heap.size ≤ gb341)); have n4_ := Aside0.mk ((by rw [hg]; exact (below_size (by repeat (first | (with_reducible first | exact HB.out | apply below_alloc | apply pw_below_drewN | apply below_drew1 | refine below_set ?_ GE338.out) | exact HB.out))) : w.heap.size ≤ gb341)); have n5_ := Aside0.mk ((by rw [hg]; exact Nat.ne_of_lt (blk_lt (g := gb338) (o := .cells #[.int .i64 a0_0, .int .i64 a0_1, .slice (some ad339) l0_2.length c0_2] 24 (0, 0)) (by (with_reducible repeat (first | refine blk_drewN ?_ _ | refine blk_drew ?_ | refine blk_alloc ?_ _)); exact BK338.out)) : gb338 ≠ gb341)); have n6_ := Aside0.mk ((by rw [hg]; exact Nat.ne_of_gt (blk_lt (g := gb338) (o := .cells #[.int .i64 a0_0, .int .i64 a0_1, .slice (some ad339) l0_2.length c0_2] 24 (0, 0)) (by (with_reducible repeat (first | refine blk_drewN ?_ _ | refine blk_drew ?_ | refine blk_alloc ?_ _)); exact BK338.out)) : gb341 ≠ gb338)); clear BK338; clear HB; have BK338 := n0_; have HB := n1_; have BK341 := n2_; have GW341 := n3_; have GE341 := n4_; have NB338_341 := n5_; have NB341_338 := n6_; clear n0_ n1_ n2_ n3_ n4_ n5_ n6_; clear hb hbox hg; have hnb27 := NB341_338.out; have hnc27 := NB338_341.out; have hcz28_0 : w26.cell? ⟨gb341, 0, none⟩ = some (.int .i64 0) := (blk_cell BK341.out 0).trans rfl; have hcz28_1 : w26.cell? ⟨gb341, 1, none⟩ = some (.int .i64 0) := (blk_cell BK341.out 1).trans rfl; have hcz28_2 : w26.cell? ⟨gb341, 2, none⟩ = some (.int .i64 0) := (blk_cell BK341.out 2).trans rfl; have hcz28_3 : w26.cell? ⟨gb341, 3, none⟩ = some (.slice none 0 0) := (blk_cell BK341.out 3).trans rfl; have hcz28_4 : w26.cell? ⟨gb341, 4, none⟩ = some (.int .i64 0) := (blk_cell BK341.out 4).trans rfl; have hcz28_5 : w26.cell? ⟨gb341, 5, none⟩ = some (.int .i64 0) := (blk_cell BK341.out 5).trans rfl; have hcz28_6 : w26.cell? ⟨gb341, 6, none⟩ = some (.int .i64 0) := (blk_cell BK341.out 6).trans rfl; have hcz28_7 : w26.cell? ⟨gb341, 7, none⟩ = some (.slice none 0 0) := (blk_cell BK341.out 7).trans rfl; have hfz28_0 := blk_frozen BK341.out 0; have hfz28_1 := blk_frozen BK341.out 1; have hfz28_2 := blk_frozen BK341.out 2; have hfz28_3 := blk_frozen BK341.out 3; have hfz28_4 := blk_frozen BK341.out 4; have hfz28_5 := blk_frozen BK341.out 5; have hfz28_6 := blk_frozen BK341.out 6; have hfz28_7 := blk_frozen BK341.out 7))
            have n0_ : Aside0 (((((((((w26.setCell ⟨gb341, 0, none⟩ (.int .i64 ((rd_T47 ((rd_T43 l0_2 a2).f1) a3).f0))).setCell ⟨gb341, 1, none⟩ (.int .i64 ((rd_T47 ((rd_T43 l0_2 a2).f1) a3).f1))).setCell ⟨gb341, 2, none⟩ (.int .i64 ((rd_T47 ((rd_T43 l0_2 a2).f1) a3).f2))).setCell ⟨gb341, 3, none⟩ (.slice A340_3 ((rd_T47 ((rd_T43 l0_2 a2).f1) a3).f3).length c340_3)).setCell ⟨gb341, 4, none⟩ (.int .i64 ((rd_T47 ((rd_T43 l0_2 a2).f1) a3).f4))).setCell ⟨gb341, 5, none⟩ (.int .i64 ((rd_T47 ((rd_T43 l0_2 a2).f1) a3).f5))).setCell ⟨gb341, 6, none⟩ (.int .i64 ((rd_T47 ((rd_T43 l0_2 a2).f1) a3).f6))).setCell ⟨gb341, 7, none⟩ (.slice A340_7 ((rd_T47 ((rd_T43 l0_2 a2).f1) a3).f7).length c340_7)).heap[gb338]? = some (.cells #[.int .i64 a0_0, .int .i64 a0_1, .slice (some ad339) l0_2.length c0_2] 24 (0, 0))) := ⟨by (with_reducible repeat (first | refine blk_drewN ?_ _ | refine blk_drew ?_ | refine blk_alloc ?_ _)); refine blk_far ?_ NB338_341.out _; (with_reducible repeat (first | refine blk_drewN ?_ _ | refine blk_drew ?_ | refine blk_alloc ?_ _)); refine blk_far ?_ NB338_341.out _; (with_reducible repeat (first | refine blk_drewN ?_ _ | refine blk_drew ?_ | refine blk_alloc ?_ _)); refine blk_far ?_ NB338_341.out _; (with_reducible repeat (first | refine blk_drewN ?_ _ | refine blk_drew ?_ | refine blk_alloc ?_ _)); refine blk_far ?_ NB338_341.out _; (with_reducible repeat (first | refine blk_drewN ?_ _ | refine blk_drew ?_ | refine blk_alloc ?_ _)); refine blk_far ?_ NB338_341.out _; (with_reducible repeat (first | refine blk_drewN ?_ _ | refine blk_drew ?_ | refine blk_alloc ?_ _)); refine blk_far ?_ NB338_341.out _; (with_reducible repeat (first | refine blk_drewN ?_ _ | refine blk_drew ?_ | refine blk_alloc ?_ _)); refine blk_far ?_ NB338_341.out _; (with_reducible repeat (first | refine blk_drewN ?_ _ | refine blk_drew ?_ | refine blk_alloc ?_ _)); refine blk_far ?_ NB338_341.out _; (with_reducible repeat (first | refine blk_drewN ?_ _ | refine blk_drew ?_ | refine blk_alloc ?_ _)); exact BK338.out⟩
            have n1_ : Aside0 (((((((((w26.setCell ⟨gb341, 0, none⟩ (.int .i64 ((rd_T47 ((rd_T43 l0_2 a2).f1) a3).f0))).setCell ⟨gb341, 1, none⟩ (.int .i64 ((rd_T47 ((rd_T43 l0_2 a2).f1) a3).f1))).setCell ⟨gb341, 2, none⟩ (.int .i64 ((rd_T47 ((rd_T43 l0_2 a2).f1) a3).f2))).setCell ⟨gb341, 3, none⟩ (.slice A340_3 ((rd_T47 ((rd_T43 l0_2 a2).f1) a3).f3).length c340_3)).setCell ⟨gb341, 4, none⟩ (.int .i64 ((rd_T47 ((rd_T43 l0_2 a2).f1) a3).f4))).setCell ⟨gb341, 5, none⟩ (.int .i64 ((rd_T47 ((rd_T43 l0_2 a2).f1) a3).f5))).setCell ⟨gb341, 6, none⟩ (.int .i64 ((rd_T47 ((rd_T43 l0_2 a2).f1) a3).f6))).setCell ⟨gb341, 7, none⟩ (.slice A340_7 ((rd_T47 ((rd_T43 l0_2 a2).f1) a3).f7).length c340_7)).heap[gb341]? = some (.cells #[.int .i64 ((rd_T47 ((rd_T43 l0_2 a2).f1) a3).f0), .int .i64 ((rd_T47 ((rd_T43 l0_2 a2).f1) a3).f1), .int .i64 ((rd_T47 ((rd_T43 l0_2 a2).f1) a3).f2), .slice A340_3 ((rd_T47 ((rd_T43 l0_2 a2).f1) a3).f3).length c340_3, .int .i64 ((rd_T47 ((rd_T43 l0_2 a2).f1) a3).f4), .int .i64 ((rd_T47 ((rd_T43 l0_2 a2).f1) a3).f5), .int .i64 ((rd_T47 ((rd_T43 l0_2 a2).f1) a3).f6), .slice A340_7 ((rd_T47 ((rd_T43 l0_2 a2).f1) a3).f7).length c340_7] 47 (0, 0))) := ⟨by (with_reducible repeat (first | refine blk_drewN ?_ _ | refine blk_drew ?_ | refine blk_alloc ?_ _)); refine blk_put (cs := #[.int .i64 ((rd_T47 ((rd_T43 l0_2 a2).f1) a3).f0), .int .i64 ((rd_T47 ((rd_T43 l0_2 a2).f1) a3).f1), .int .i64 ((rd_T47 ((rd_T43 l0_2 a2).f1) a3).f2), .slice A340_3 ((rd_T47 ((rd_T43 l0_2 a2).f1) a3).f3).length c340_3, .int .i64 ((rd_T47 ((rd_T43 l0_2 a2).f1) a3).f4), .int .i64 ((rd_T47 ((rd_T43 l0_2 a2).f1) a3).f5), .int .i64 ((rd_T47 ((rd_T43 l0_2 a2).f1) a3).f6), .slice none 0 0]) ?_ 7 _ rfl; (with_reducible repeat (first | refine blk_drewN ?_ _ | refine blk_drew ?_ | refine blk_alloc ?_ _)); refine blk_put (cs := #[.int .i64 ((rd_T47 ((rd_T43 l0_2 a2).f1) a3).f0), .int .i64 ((rd_T47 ((rd_T43 l0_2 a2).f1) a3).f1), .int .i64 ((rd_T47 ((rd_T43 l0_2 a2).f1) a3).f2), .slice A340_3 ((rd_T47 ((rd_T43 l0_2 a2).f1) a3).f3).length c340_3, .int .i64 ((rd_T47 ((rd_T43 l0_2 a2).f1) a3).f4), .int .i64 ((rd_T47 ((rd_T43 l0_2 a2).f1) a3).f5), .int .i64 0, .slice none 0 0]) ?_ 6 _ rfl; (with_reducible repeat (first | refine blk_drewN ?_ _ | refine blk_drew ?_ | refine blk_alloc ?_ _)); refine blk_put (cs := #[.int .i64 ((rd_T47 ((rd_T43 l0_2 a2).f1) a3).f0), .int .i64 ((rd_T47 ((rd_T43 l0_2 a2).f1) a3).f1), .int .i64 ((rd_T47 ((rd_T43 l0_2 a2).f1) a3).f2), .slice A340_3 ((rd_T47 ((rd_T43 l0_2 a2).f1) a3).f3).length c340_3, .int .i64 ((rd_T47 ((rd_T43 l0_2 a2).f1) a3).f4), .int .i64 0, .int .i64 0, .slice none 0 0]) ?_ 5 _ rfl; (with_reducible repeat (first | refine blk_drewN ?_ _ | refine blk_drew ?_ | refine blk_alloc ?_ _)); refine blk_put (cs := #[.int .i64 ((rd_T47 ((rd_T43 l0_2 a2).f1) a3).f0), .int .i64 ((rd_T47 ((rd_T43 l0_2 a2).f1) a3).f1), .int .i64 ((rd_T47 ((rd_T43 l0_2 a2).f1) a3).f2), .slice A340_3 ((rd_T47 ((rd_T43 l0_2 a2).f1) a3).f3).length c340_3, .int .i64 0, .int .i64 0, .int .i64 0, .slice none 0 0]) ?_ 4 _ rfl; (with_reducible repeat (first | refine blk_drewN ?_ _ | refine blk_drew ?_ | refine blk_alloc ?_ _)); refine blk_put (cs := #[.int .i64 ((rd_T47 ((rd_T43 l0_2 a2).f1) a3).f0), .int .i64 ((rd_T47 ((rd_T43 l0_2 a2).f1) a3).f1), .int .i64 ((rd_T47 ((rd_T43 l0_2 a2).f1) a3).f2), .slice none 0 0, .int .i64 0, .int .i64 0, .int .i64 0, .slice none 0 0]) ?_ 3 _ rfl; (with_reducible repeat (first | refine blk_drewN ?_ _ | refine blk_drew ?_ | refine blk_alloc ?_ _)); refine blk_put (cs := #[.int .i64 ((rd_T47 ((rd_T43 l0_2 a2).f1) a3).f0), .int .i64 ((rd_T47 ((rd_T43 l0_2 a2).f1) a3).f1), .int .i64 0, .slice none 0 0, .int .i64 0, .int .i64 0, .int .i64 0, .slice none 0 0]) ?_ 2 _ rfl; (with_reducible repeat (first | refine blk_drewN ?_ _ | refine blk_drew ?_ | refine blk_alloc ?_ _)); refine blk_put (cs := #[.int .i64 ((rd_T47 ((rd_T43 l0_2 a2).f1) a3).f0), .int .i64 0, .int .i64 0, .slice none 0 0, .int .i64 0, .int .i64 0, .int .i64 0, .slice none 0 0]) ?_ 1 _ rfl; (with_reducible repeat (first | refine blk_drewN ?_ _ | refine blk_drew ?_ | refine blk_alloc ?_ _)); refine blk_put (cs := #[.int .i64 0, .int .i64 0, .int .i64 0, .slice none 0 0, .int .i64 0, .int .i64 0, .int .i64 0, .slice none 0 0]) ?_ 0 _ rfl; (with_reducible repeat (first | refine blk_drewN ?_ _ | refine blk_drew ?_ | refine blk_alloc ?_ _)); exact BK341.out⟩
            have n2_ : Aside0 (Below w.heap.size w ((((((((w26.setCell ⟨gb341, 0, none⟩ (.int .i64 ((rd_T47 ((rd_T43 l0_2 a2).f1) a3).f0))).setCell ⟨gb341, 1, none⟩ (.int .i64 ((rd_T47 ((rd_T43 l0_2 a2).f1) a3).f1))).setCell ⟨gb341, 2, none⟩ (.int .i64 ((rd_T47 ((rd_T43 l0_2 a2).f1) a3).f2))).setCell ⟨gb341, 3, none⟩ (.slice A340_3 ((rd_T47 ((rd_T43 l0_2 a2).f1) a3).f3).length c340_3)).setCell ⟨gb341, 4, none⟩ (.int .i64 ((rd_T47 ((rd_T43 l0_2 a2).f1) a3).f4))).setCell ⟨gb341, 5, none⟩ (.int .i64 ((rd_T47 ((rd_T43 l0_2 a2).f1) a3).f5))).setCell ⟨gb341, 6, none⟩ (.int .i64 ((rd_T47 ((rd_T43 l0_2 a2).f1) a3).f6))).setCell ⟨gb341, 7, none⟩ (.slice A340_7 ((rd_T47 ((rd_T43 l0_2 a2).f1) a3).f7).length c340_7))) := ⟨by repeat (first | (with_reducible first | exact HB.out | apply below_alloc | apply pw_below_drewN | apply below_drew1 | refine below_set ?_ GE338.out | refine below_set ?_ GE341.out) | exact HB.out)⟩
            (try clear BK338)
            (try clear BK341)
            (try clear HB)
            generalize ((((((((w26.setCell ⟨gb341, 0, none⟩ (.int .i64 ((rd_T47 ((rd_T43 l0_2 a2).f1) a3).f0))).setCell ⟨gb341, 1, none⟩ (.int .i64 ((rd_T47 ((rd_T43 l0_2 a2).f1) a3).f1))).setCell ⟨gb341, 2, none⟩ (.int .i64 ((rd_T47 ((rd_T43 l0_2 a2).f1) a3).f2))).setCell ⟨gb341, 3, none⟩ (.slice A340_3 ((rd_T47 ((rd_T43 l0_2 a2).f1) a3).f3).length c340_3)).setCell ⟨gb341, 4, none⟩ (.int .i64 ((rd_T47 ((rd_T43 l0_2 a2).f1) a3).f4))).setCell ⟨gb341, 5, none⟩ (.int .i64 ((rd_T47 ((rd_T43 l0_2 a2).f1) a3).f5))).setCell ⟨gb341, 6, none⟩ (.int .i64 ((rd_T47 ((rd_T43 l0_2 a2).f1) a3).f6))).setCell ⟨gb341, 7, none⟩ (.slice A340_7 ((rd_T47 ((rd_T43 l0_2 a2).f1) a3).f7).length c340_7)) = w29 at n0_ n1_ n2_ ⊢
            have BK338 := n0_
            have BK341 := n1_
            have HB := n2_
            clear n0_ n1_ n2_
            have n0_ := Aside0.mk (blk_drew BK338.out)
            have n1_ := Aside0.mk (blk_drew BK341.out)
            have n2_ := Aside0.mk (below_drew1 HB.out)
            clear BK338
            clear BK341
            clear HB
            have BK338 := n0_
            have BK341 := n1_
            have HB := n2_
            clear n0_ n1_ n2_
            refine start_ (n := 17) (S := fun w' => w'.cell? ⟨gb341, 0, none⟩ = some (.int .i64 ((rd_T47 ((rd_T43 l0_2 a2).f1) a3).f0)) ∧ w'.cell? ⟨gb341, 1, none⟩ = some (.int .i64 ((rd_T47 ((rd_T43 l0_2 a2).f1) a3).f1)) ∧ w'.cell? ⟨gb341, 2, none⟩ = some (.int .i64 ((rd_T47 ((rd_T43 l0_2 a2).f1) a3).f2)) ∧ w'.cell? ⟨gb341, 3, none⟩ = some (.slice A340_3 ((rd_T47 ((rd_T43 l0_2 a2).f1) a3).f3).length c340_3) ∧ w'.cell? ⟨gb341, 4, none⟩ = some (.int .i64 ((rd_T47 ((rd_T43 l0_2 a2).f1) a3).f4)) ∧ w'.cell? ⟨gb341, 5, none⟩ = some (.int .i64 ((rd_T47 ((rd_T43 l0_2 a2).f1) a3).f5)) ∧ w'.cell? ⟨gb341, 6, none⟩ = some (.int .i64 ((rd_T47 ((rd_T43 l0_2 a2).f1) a3).f6)) ∧ w'.cell? ⟨gb341, 7, none⟩ = some (.slice A340_7 ((rd_T47 ((rd_T43 l0_2 a2).f1) a3).f7).length c340_7)) (ds := []) #[false, false, false, false, false, false, false, false, false, false, false, false, false, false, false, false, false] (by kernel_rfl) rfl rfl ⟨(blk_cell BK341.out 0).trans rfl, (blk_cell BK341.out 1).trans rfl, (blk_cell BK341.out 2).trans rfl, (blk_cell BK341.out 3).trans rfl, (blk_cell BK341.out 4).trans rfl, (blk_cell BK341.out 5).trans rfl, (blk_cell BK341.out 6).trans rfl, (blk_cell BK341.out 7).trans rfl⟩ (fun hHeld => ?_); refine with_tabW portageref24_Idle.tab2 portageref24_Idle.bits2 (fun HT_ HW_ => ?_)
            generalize w29.drew = w30 at BK338 BK341 HB hHeld ⊢
            refine take_ (i := 0) (N := some 19) (v := ?_) (a' := ?_) #[true, false, false, false, false, false, false, false, false, false, false, false, false, false, false, false, false] rfl rfl (take_ofW HT_.out HW_.out (by kernel_rfl)) (fun _ _ _ h => h) (Or.inl ⟨by rfl, ?_⟩) hHeld ?_ ?_
            rotate_left
            · rintro w' ⟨s0, s1, s2, s3, s4, s5, s6, s7⟩
              go_simp
              with_reducible rfl
            rotate_left
            · simp only [Act.put, List.setIfInBounds_toArray, List.set_cons_zero, List.set_cons_succ, i64_w, i32_w]
              rfl
            refine one_ (i := 1) (N := some 20) #[true, true, false, false, false, false, false, false, false, false, false, false, false, false, false, false, false] rfl rfl (one_of HT_.out (by kernel_rfl)) (by decide) (fun K hK => ?_)
            refine goes_ Try.func56 (by kernel_rfl) rfl #[.agg #[.int .i64 ((rd_T47 ((rd_T43 l0_2 a2).f1) a3).f0), .int .i64 ((rd_T47 ((rd_T43 l0_2 a2).f1) a3).f1), .int .i64 ((rd_T47 ((rd_T43 l0_2 a2).f1) a3).f2), .slice A340_3 ((rd_T47 ((rd_T43 l0_2 a2).f1) a3).f3).length c340_3, .int .i64 ((rd_T47 ((rd_T43 l0_2 a2).f1) a3).f4), .int .i64 ((rd_T47 ((rd_T43 l0_2 a2).f1) a3).f5), .int .i64 ((rd_T47 ((rd_T43 l0_2 a2).f1) a3).f6), .slice A340_7 ((rd_T47 ((rd_T43 l0_2 a2).f1) a3).f7).length c340_7]] (by rfl) rfl rfl (by (try simp only [List.map_toArray, List.map_cons, List.map_nil]); first | done | rfl | (simp only [List.length_drop, List.length_take]; rfl)) ?_
            with_reducible refine (portageref24_quiet.calls ((rd_T47 ((rd_T43 l0_2 a2).f1) a3).f0) ((rd_T47 ((rd_T43 l0_2 a2).f1) a3).f1) ((rd_T47 ((rd_T43 l0_2 a2).f1) a3).f2) _ _ ((rd_T47 ((rd_T43 l0_2 a2).f1) a3).f3) ((rd_T47 ((rd_T43 l0_2 a2).f1) a3).f4) ((rd_T47 ((rd_T43 l0_2 a2).f1) a3).f5) ((rd_T47 ((rd_T43 l0_2 a2).f1) a3).f6) _ _ ((rd_T47 ((rd_T43 l0_2 a2).f1) a3).f7) false _ ?side1 ?side2 ?side3 ?side4 A9.out).mono ?_
            (case side1 => repeat (first | exact (Kd.C_below HR340_3.out HB.out) | (with_reducible refine Kd.C_alloc ?_ _) | (with_reducible refine Kd.C_drewN ?_ _) | (with_reducible refine Kd.C_drew ?_)))
            (case side2 => exact HC340_3.out)
            (case side3 => repeat (first | exact (Kd.C_below HR340_7.out HB.out) | (with_reducible refine Kd.C_alloc ?_ _) | (with_reducible refine Kd.C_drewN ?_ _) | (with_reducible refine Kd.C_drew ?_)))
            (case side4 => exact HC340_7.out)
            rintro e w31 ⟨rfl, hb⟩
            refine ⟨_, rfl, ?_⟩
            have n0_ := Aside0.mk (blk_below (g := gb338) (o := .cells #[.int .i64 a0_0, .int .i64 a0_1, .slice (some ad339) l0_2.length c0_2] 24 (0, 0)) (by (with_reducible repeat (first | refine blk_drewN ?_ _ | refine blk_drew ?_ | refine blk_alloc ?_ _)); exact BK338.out) hb)
            have n1_ := Aside0.mk (blk_below (g := gb341) (o := .cells #[.int .i64 ((rd_T47 ((rd_T43 l0_2 a2).f1) a3).f0), .int .i64 ((rd_T47 ((rd_T43 l0_2 a2).f1) a3).f1), .int .i64 ((rd_T47 ((rd_T43 l0_2 a2).f1) a3).f2), .slice A340_3 ((rd_T47 ((rd_T43 l0_2 a2).f1) a3).f3).length c340_3, .int .i64 ((rd_T47 ((rd_T43 l0_2 a2).f1) a3).f4), .int .i64 ((rd_T47 ((rd_T43 l0_2 a2).f1) a3).f5), .int .i64 ((rd_T47 ((rd_T43 l0_2 a2).f1) a3).f6), .slice A340_7 ((rd_T47 ((rd_T43 l0_2 a2).f1) a3).f7).length c340_7] 47 (0, 0)) (by (with_reducible repeat (first | refine blk_drewN ?_ _ | refine blk_drew ?_ | refine blk_alloc ?_ _)); exact BK341.out) hb)
            have n2_ := Aside0.mk (below_step (by repeat (first | (with_reducible first | exact HB.out | apply below_alloc | apply pw_below_drewN | apply below_drew1 | refine below_set ?_ GE338.out | refine below_set ?_ GE341.out) | exact HB.out)) hb)
            clear BK338
            clear BK341
            clear HB
            have BK338 := n0_
            have BK341 := n1_
            have HB := n2_
            clear n0_ n1_ n2_
            (try clear hb)
            (try clear hb2)
            (try clear hk)
            (try clear hi)
            refine hK.out _ _ ⟨(blk_cell BK341.out 0).trans rfl, (blk_cell BK341.out 1).trans rfl, (blk_cell BK341.out 2).trans rfl, (blk_cell BK341.out 3).trans rfl, (blk_cell BK341.out 4).trans rfl, (blk_cell BK341.out 5).trans rfl, (blk_cell BK341.out 6).trans rfl, (blk_cell BK341.out 7).trans rfl⟩ (fun hHeld => ?_)
            clear hK K
            refine norm_ (a' := ?_) ?_ ?_
            rotate_left
            · show Act.put _ (some 20) _ = _
              simp only [Act.put, List.setIfInBounds_toArray, List.set_cons_zero, List.set_cons_succ, i64_w, i32_w]
              rfl
            refine pure_ (i := 2) (N := some 21) (v := ?_) (a' := ?_) #[true, true, true, false, false, false, false, false, false, false, false, false, false, false, false, false, false] rfl rfl (any_of HT_.out (by kernel_rfl)) (fun _ _ _ h => h) (Or.inl ⟨by rfl, ?_⟩) ?_ ?_
            rotate_left
            · intro w'
              go_simp
              with_reducible rfl
            rotate_left
            · simp only [Act.put, List.setIfInBounds_toArray, List.set_cons_zero, List.set_cons_succ, i64_w, i32_w]
              rfl
            refine pure_ (i := 3) (N := some 22) (v := undef) (a' := ?_) #[true, true, true, true, false, false, false, false, false, false, false, false, false, false, false, false, false] rfl rfl (any_of HT_.out (by kernel_rfl)) (fun _ _ _ h => h) (Or.inr ⟨by rfl, rfl⟩) ?_ ?_
            rotate_left
            · simp only [Act.put, List.setIfInBounds_toArray, List.set_cons_zero, List.set_cons_succ, i64_w, i32_w]
              rfl
            refine pure_ (i := 4) (N := some 23) (v := undef) (a' := ?_) #[true, true, true, true, true, false, false, false, false, false, false, false, false, false, false, false, false] rfl rfl (any_of HT_.out (by kernel_rfl)) (fun _ _ _ h => h) (Or.inr ⟨by rfl, rfl⟩) ?_ ?_
            rotate_left
            · simp only [Act.put, List.setIfInBounds_toArray, List.set_cons_zero, List.set_cons_succ, i64_w, i32_w]
              rfl
            refine pure_ (i := 5) (N := some 24) (v := undef) (a' := ?_) #[true, true, true, true, true, true, false, false, false, false, false, false, false, false, false, false, false] rfl rfl (any_of HT_.out (by kernel_rfl)) (fun _ _ _ h => h) (Or.inr ⟨by rfl, rfl⟩) ?_ ?_
            rotate_left
            · simp only [Act.put, List.setIfInBounds_toArray, List.set_cons_zero, List.set_cons_succ, i64_w, i32_w]
              rfl
            refine pure_ (i := 6) (N := some 25) (v := undef) (a' := ?_) #[true, true, true, true, true, true, true, false, false, false, false, false, false, false, false, false, false] rfl rfl (any_of HT_.out (by kernel_rfl)) (fun _ _ _ h => h) (Or.inr ⟨by rfl, rfl⟩) ?_ ?_
            rotate_left
            · simp only [Act.put, List.setIfInBounds_toArray, List.set_cons_zero, List.set_cons_succ, i64_w, i32_w]
              rfl
            refine pure_ (i := 7) (N := some 26) (v := undef) (a' := ?_) #[true, true, true, true, true, true, true, true, false, false, false, false, false, false, false, false, false] rfl rfl (any_of HT_.out (by kernel_rfl)) (fun _ _ _ h => h) (Or.inr ⟨by rfl, rfl⟩) ?_ ?_
            rotate_left
            · simp only [Act.put, List.setIfInBounds_toArray, List.set_cons_zero, List.set_cons_succ, i64_w, i32_w]
              rfl
            refine pure_ (i := 8) (N := some 27) (v := undef) (a' := ?_) #[true, true, true, true, true, true, true, true, true, false, false, false, false, false, false, false, false] rfl rfl (any_of HT_.out (by kernel_rfl)) (fun _ _ _ h => h) (Or.inr ⟨by rfl, rfl⟩) ?_ ?_
            rotate_left
            · simp only [Act.put, List.setIfInBounds_toArray, List.set_cons_zero, List.set_cons_succ, i64_w, i32_w]
              rfl
            refine pure_ (i := 9) (N := some 28) (v := undef) (a' := ?_) #[true, true, true, true, true, true, true, true, true, true, false, false, false, false, false, false, false] rfl rfl (any_of HT_.out (by kernel_rfl)) (fun _ _ _ h => h) (Or.inr ⟨by rfl, rfl⟩) ?_ ?_
            rotate_left
            · simp only [Act.put, List.setIfInBounds_toArray, List.set_cons_zero, List.set_cons_succ, i64_w, i32_w]
              rfl
            refine pure_ (i := 10) (N := some 29) (v := undef) (a' := ?_) #[true, true, true, true, true, true, true, true, true, true, true, false, false, false, false, false, false] rfl rfl (any_of HT_.out (by kernel_rfl)) (fun _ _ _ h => h) (Or.inr ⟨by rfl, rfl⟩) ?_ ?_
            rotate_left
            · simp only [Act.put, List.setIfInBounds_toArray, List.set_cons_zero, List.set_cons_succ, i64_w, i32_w]
              rfl
            refine pure_ (i := 11) (N := some 30) (v := undef) (a' := ?_) #[true, true, true, true, true, true, true, true, true, true, true, true, false, false, false, false, false] rfl rfl (any_of HT_.out (by kernel_rfl)) (fun _ _ _ h => h) (Or.inr ⟨by rfl, rfl⟩) ?_ ?_
            rotate_left
            · simp only [Act.put, List.setIfInBounds_toArray, List.set_cons_zero, List.set_cons_succ, i64_w, i32_w]
              rfl
            refine pure_ (i := 12) (N := some 31) (v := undef) (a' := ?_) #[true, true, true, true, true, true, true, true, true, true, true, true, true, false, false, false, false] rfl rfl (any_of HT_.out (by kernel_rfl)) (fun _ _ _ h => h) (Or.inr ⟨by rfl, rfl⟩) ?_ ?_
            rotate_left
            · simp only [Act.put, List.setIfInBounds_toArray, List.set_cons_zero, List.set_cons_succ, i64_w, i32_w]
              rfl
            refine pure_ (i := 13) (N := some 32) (v := undef) (a' := ?_) #[true, true, true, true, true, true, true, true, true, true, true, true, true, true, false, false, false] rfl rfl (any_of HT_.out (by kernel_rfl)) (fun _ _ _ h => h) (Or.inr ⟨by rfl, rfl⟩) ?_ ?_
            rotate_left
            · simp only [Act.put, List.setIfInBounds_toArray, List.set_cons_zero, List.set_cons_succ, i64_w, i32_w]
              rfl
            refine pure_ (i := 14) (N := some 33) (v := undef) (a' := ?_) #[true, true, true, true, true, true, true, true, true, true, true, true, true, true, true, false, false] rfl rfl (any_of HT_.out (by kernel_rfl)) (fun _ _ _ h => h) (Or.inr ⟨by rfl, rfl⟩) ?_ ?_
            rotate_left
            · simp only [Act.put, List.setIfInBounds_toArray, List.set_cons_zero, List.set_cons_succ, i64_w, i32_w]
              rfl
            refine pure_ (i := 15) (N := some 34) (v := ?_) (a' := ?_) #[true, true, true, true, true, true, true, true, true, true, true, true, true, true, true, true, false] rfl rfl (any_of HT_.out (by kernel_rfl)) (fun _ _ _ h => h) (Or.inl ⟨by rfl, ?_⟩) ?_ ?_
            rotate_left
            · intro w'
              go_simp
              with_reducible rfl
            rotate_left
            · simp only [Act.put, List.setIfInBounds_toArray, List.set_cons_zero, List.set_cons_succ, i64_w, i32_w]
              rfl
            refine pure_ (i := 16) (N := some 8) (v := ?_) (a' := ?_) #[true, true, true, true, true, true, true, true, true, true, true, true, true, true, true, true, true] rfl rfl (any_of HT_.out (by kernel_rfl)) (fun _ _ _ h => h) (Or.inl ⟨by rfl, ?_⟩) ?_ ?_
            rotate_left
            · intro w'
              go_simp
              with_reducible rfl
            rotate_left
            · simp only [Act.put, List.setIfInBounds_toArray, List.set_cons_zero, List.set_cons_succ, i64_w, i32_w]
              rfl
            refine done_ (done_of HT_.out (by kernel_rfl)) ?_
            try go_wp2
            go_ret
            exact ⟨by first | rfl | (simp [errW_none, errW_some] <;> rfl) | (simp [*, errW_none, errW_some] <;> rfl), by repeat (first | (with_reducible first | exact HB.out | apply below_alloc | apply pw_below_drewN | apply below_drew1 | refine below_set ?_ GE338.out | refine below_set ?_ GE341.out) | exact HB.out)⟩
        · rw [if_neg c8] at H
          exact absurd H (by simp)
      · rw [if_neg c7] at H
        exact absurd H (by simp)
    · rw [if_neg c6] at H
      exact absurd H (by simp)
  · rw [if_neg c5] at H
    exact absurd H (by simp)

-- NOT PRINTED: function 15 (portageref24_Run)

-- NOT PRINTED: function 4 (portagelaw24_LiveRun)

/-! ### portagelaw24_quiet: function 24 -/
end Go.Proofs.Ytklknkfoafdgpaa.PLiveKnown
