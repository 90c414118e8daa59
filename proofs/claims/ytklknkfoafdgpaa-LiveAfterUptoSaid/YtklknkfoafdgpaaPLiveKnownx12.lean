-- printed by print.sh 35421559b90ae4d0a3588c463048766b98c2df88dd9212a6774a882060cdf62d, cut by a program to what the claim asks for
import Derived.Test.YtklknkfoafdgpaaPLiveKnownx0
import Derived.Test.YtklknkfoafdgpaaPLiveKnownx10
import Derived.Test.YtklknkfoafdgpaaPLiveKnownx11
namespace Go.Proofs.Ytklknkfoafdgpaa.PLiveKnown
open Go.RowKit Go.Proofs.YtklknkfoafdgpaaW.PrintWords Go.Proofs.YtklknkfoafdgpaaW.PrintLast Go.Proofs.YtklknkfoafdgpaaW.PrintMore
attribute [local go_sem] max2_int min2_int max_two min_two max_three min_three max_four min_four   -- for this text's walks alone
set_option linter.unusedVariables false
set_option linter.unusedSimpArgs false

/-! ### portagekit_sameIns: function 55 -/
mutual
def portagekit_sameIns.l0 : Nat → List (S47) → List (S47) → Int → Option (Bool)
  | 0, _, _, _ => none
  | k + 1, x0, x1, x5 => if x5 < (x0.length : Int) then (if 0 ≤ x5 then (if x5 < (x1.length : Int) then (if ((rd_T47 x0 x5).f0) = ((rd_T47 x1 x5).f0) then (if ((rd_T47 x0 x5).f1) = ((rd_T47 x1 x5).f1) then (if ((rd_T47 x0 x5).f2) = ((rd_T47 x1 x5).f2) then (if ((rd_T47 x0 x5).f4) = ((rd_T47 x1 x5).f4) then (if ((rd_T47 x0 x5).f5) = ((rd_T47 x1 x5).f5) then (portagekit_sameIns.j1 k x0 x1 x5 (((rd_T47 x0 x5).f6) != ((rd_T47 x1 x5).f6)) ((rd_T47 x0 x5).f0) ((rd_T47 x0 x5).f1) ((rd_T47 x0 x5).f2) ((rd_T47 x0 x5).f3) ((rd_T47 x0 x5).f4) ((rd_T47 x0 x5).f5) ((rd_T47 x0 x5).f6) ((rd_T47 x0 x5).f7) ((rd_T47 x1 x5).f0) ((rd_T47 x1 x5).f1) ((rd_T47 x1 x5).f2) ((rd_T47 x1 x5).f3) ((rd_T47 x1 x5).f4) ((rd_T47 x1 x5).f5) ((rd_T47 x1 x5).f6) ((rd_T47 x1 x5).f7)) else (portagekit_sameIns.j1 k x0 x1 x5 true ((rd_T47 x0 x5).f0) ((rd_T47 x0 x5).f1) ((rd_T47 x0 x5).f2) ((rd_T47 x0 x5).f3) ((rd_T47 x0 x5).f4) ((rd_T47 x0 x5).f5) ((rd_T47 x0 x5).f6) ((rd_T47 x0 x5).f7) ((rd_T47 x1 x5).f0) ((rd_T47 x1 x5).f1) ((rd_T47 x1 x5).f2) ((rd_T47 x1 x5).f3) ((rd_T47 x1 x5).f4) ((rd_T47 x1 x5).f5) ((rd_T47 x1 x5).f6) ((rd_T47 x1 x5).f7))) else (portagekit_sameIns.j1 k x0 x1 x5 true ((rd_T47 x0 x5).f0) ((rd_T47 x0 x5).f1) ((rd_T47 x0 x5).f2) ((rd_T47 x0 x5).f3) ((rd_T47 x0 x5).f4) ((rd_T47 x0 x5).f5) ((rd_T47 x0 x5).f6) ((rd_T47 x0 x5).f7) ((rd_T47 x1 x5).f0) ((rd_T47 x1 x5).f1) ((rd_T47 x1 x5).f2) ((rd_T47 x1 x5).f3) ((rd_T47 x1 x5).f4) ((rd_T47 x1 x5).f5) ((rd_T47 x1 x5).f6) ((rd_T47 x1 x5).f7))) else (portagekit_sameIns.j1 k x0 x1 x5 true ((rd_T47 x0 x5).f0) ((rd_T47 x0 x5).f1) ((rd_T47 x0 x5).f2) ((rd_T47 x0 x5).f3) ((rd_T47 x0 x5).f4) ((rd_T47 x0 x5).f5) ((rd_T47 x0 x5).f6) ((rd_T47 x0 x5).f7) ((rd_T47 x1 x5).f0) ((rd_T47 x1 x5).f1) ((rd_T47 x1 x5).f2) ((rd_T47 x1 x5).f3) ((rd_T47 x1 x5).f4) ((rd_T47 x1 x5).f5) ((rd_T47 x1 x5).f6) ((rd_T47 x1 x5).f7))) else (portagekit_sameIns.j1 k x0 x1 x5 true ((rd_T47 x0 x5).f0) ((rd_T47 x0 x5).f1) ((rd_T47 x0 x5).f2) ((rd_T47 x0 x5).f3) ((rd_T47 x0 x5).f4) ((rd_T47 x0 x5).f5) ((rd_T47 x0 x5).f6) ((rd_T47 x0 x5).f7) ((rd_T47 x1 x5).f0) ((rd_T47 x1 x5).f1) ((rd_T47 x1 x5).f2) ((rd_T47 x1 x5).f3) ((rd_T47 x1 x5).f4) ((rd_T47 x1 x5).f5) ((rd_T47 x1 x5).f6) ((rd_T47 x1 x5).f7))) else (portagekit_sameIns.j1 k x0 x1 x5 true ((rd_T47 x0 x5).f0) ((rd_T47 x0 x5).f1) ((rd_T47 x0 x5).f2) ((rd_T47 x0 x5).f3) ((rd_T47 x0 x5).f4) ((rd_T47 x0 x5).f5) ((rd_T47 x0 x5).f6) ((rd_T47 x0 x5).f7) ((rd_T47 x1 x5).f0) ((rd_T47 x1 x5).f1) ((rd_T47 x1 x5).f2) ((rd_T47 x1 x5).f3) ((rd_T47 x1 x5).f4) ((rd_T47 x1 x5).f5) ((rd_T47 x1 x5).f6) ((rd_T47 x1 x5).f7))) else (none)) else (none)) else (some true)
def portagekit_sameIns.j1 : Nat → List (S47) → List (S47) → Int → Bool → Int → Int → Int → List (S82) → Int → Int → Int → List (S78) → Int → Int → Int → List (S82) → Int → Int → Int → List (S78) → Option (Bool)
  | 0, _, _, _, _, _, _, _, _, _, _, _, _, _, _, _, _, _, _, _, _ => none
  | k + 1, x0, x1, x5, x66, x261000, x261001, x261002, x261003, x261004, x261005, x261006, x261007, x263000, x263001, x263002, x263003, x263004, x263005, x263006, x263007 => if x66 = true then (some false) else ((portagekit_sameOpnds.f k x261003 x263003).bind fun t263 => (if t263 = true then ((portagekit_sameShapes.f k x261007 x263007).bind fun t264 => (if t264 = true then (portagekit_sameIns.l0 k x0 x1 (wrap64 (x5 + 1))) else (some false))) else (some false)))
end
def portagekit_sameIns.f (k : Nat) (l0 : List (S47)) (l1 : List (S47)) : Option (Bool) := if (l0.length : Int) = (l1.length : Int) then (portagekit_sameIns.l0 k l0 l1 0) else (some false)
set_option maxHeartbeats 8000000 in
set_option maxRecDepth 100000 in
theorem portagekit_sameIns.calls (k : Nat) (A0 : Option Addr) (c0 : Nat) (l0 : List (S47)) (A1 : Option Addr) (c1 : Nat) (l1 : List (S47)) (r : Bool) (w : World) (hr0 : Kd.C k47 w A0 l0.length l0) (hc0 : l0.length ≤ c0) (hr1 : Kd.C k47 w A1 l1.length l1) (hc1 : l1.length ≤ c1) (h : portagekit_sameIns.f k l0 l1 = some r) :
    Calls Try.prog 55 #[.slice A0 l0.length c0, .slice A1 l1.length c1] w fun e w' => e = .returned (.bool r) ∧ Below w.heap.size w w' := by
  have hu47 := Try.underlying47
  have HR0 := Aside0.mk hr0
  have HC0 := Aside0.mk hc0
  clear hr0 hc0
  have HR1 := Aside0.mk hr1
  have HC1 := Aside0.mk hc1
  clear hr1 hc1
  have HB := Aside0.mk (Below.refl w.heap.size w)
  have H : (if (l0.length : Int) = (l1.length : Int) then (portagekit_sameIns.l0 k l0 l1 0) else (some false)) = some r := h
  clear h
  by_cases c3 : (l0.length : Int) = (l1.length : Int)
  · rw [if_pos c3] at H
    have c3b0 : ((l0.length : Int) == (l1.length : Int)) = true := beq_iff_eq.mpr c3
    have c3b1 : ((l0.length : Int) != (l1.length : Int)) = false := bne_eq_false_iff_eq.mpr c3
    have c3b2 : (l0.length == l1.length) = true := by first | simpa using c3 | (simp at c3 ⊢; omega)
    clear c3
    have H' := Aside0.mk H
    clear H
    go_enter Try.func55, Try.ntmps55
    go_wp2
    go_loopg [5] k (fun kq v5 w' => ∃ (x5_1 : Int), v5 = .int .i64 x5_1 ∧ Aside0 (portagekit_sameIns.l0 kq l0 l1 x5_1 = some r) ∧ Aside0 (kq ≤ k) ∧ Aside0 (Below w.heap.size w w'))
    case atStart => exact ⟨(0), (by first | rfl | (simp; done) | (simp [*]; done)), H', ⟨Nat.le_refl _⟩, ⟨by repeat (first | (with_reducible first | exact HB.out | apply below_alloc | apply pw_below_drewN | apply below_drew1) | exact HB.out)⟩⟩
    case round =>
      clear H'
      try clear c1
      try clear p2
      try clear c3
      try clear c3b0
      try clear c3b1
      try clear c3b2
      obtain ⟨x5_1, rfl, HA, HK1, HB⟩ := hrel
      cases gk with
      | zero => exact absurd HA.out (by simp [portagekit_sameIns.l0])
      | succ k1 =>
        have H := HA.out
        clear HA
        simp only [portagekit_sameIns.l0] at H
        by_cases c4 : x5_1 < (l0.length : Int)
        · rw [if_pos c4] at H
          have c4b0 : decide (x5_1 < (l0.length : Int)) = true := decide_eq_true c4
          clear c4
          by_cases c5 : 0 ≤ x5_1
          · rw [if_pos c5] at H
            have c5b0 : decide (0 ≤ x5_1) = true := decide_eq_true c5
            clear c5
            by_cases c6 : x5_1 < (l1.length : Int)
            · rw [if_pos c6] at H
              have c6b0 : decide (x5_1 < (l1.length : Int)) = true := decide_eq_true c6
              clear c6
              have HC7 := Aside0.mk H
              clear H
              have p259 : 0 ≤ (x5_1 : Int) := of_decide_eq_true (by first | (with_reducible assumption) | assumption)
              have q259 : x5_1 < (l0.length : Int) := of_decide_eq_true (by first | (with_reducible assumption) | assumption)
              obtain ⟨ad259, A259_3, c259_3, A259_7, c259_7, e259, hx259_0, hx259_1, hx259_2, hx259_3, hx259_4, hx259_5, hx259_6, hx259_7, hl259_3, hi259_3, hl259_7, hi259_7⟩ := at_T47 HR0.out x5_1 p259 q259
              cases e259
              replace hx259_0 := (HB.out.cell (World.block_lt_of_cell? w _ hx259_0)).trans hx259_0
              replace hx259_1 := (HB.out.cell (World.block_lt_of_cell? w _ hx259_1)).trans hx259_1
              replace hx259_2 := (HB.out.cell (World.block_lt_of_cell? w _ hx259_2)).trans hx259_2
              replace hx259_3 := (HB.out.cell (World.block_lt_of_cell? w _ hx259_3)).trans hx259_3
              replace hx259_4 := (HB.out.cell (World.block_lt_of_cell? w _ hx259_4)).trans hx259_4
              replace hx259_5 := (HB.out.cell (World.block_lt_of_cell? w _ hx259_5)).trans hx259_5
              replace hx259_6 := (HB.out.cell (World.block_lt_of_cell? w _ hx259_6)).trans hx259_6
              replace hx259_7 := (HB.out.cell (World.block_lt_of_cell? w _ hx259_7)).trans hx259_7
              have HR259_3 := Aside0.mk hi259_3
              have HC259_3 := Aside0.mk hl259_3
              clear hi259_3 hl259_3
              have HR259_7 := Aside0.mk hi259_7
              have HC259_7 := Aside0.mk hl259_7
              clear hi259_7 hl259_7
              replace p259 := eq_true p259
              replace q259 := eq_true q259
              go_upto_region 8 with (first | ((with_reducible refine gate_dst (N := 6) rfl ?_); refine box_event ?hg (N := 6) ?hd (cs := #[.int .i64 0, .int .i64 0, .int .i64 0, .slice none 0 0, .int .i64 0, .int .i64 0, .int .i64 0, .slice none 0 0]) (t := 47) ?hr ?_; (case hd => rfl); (case hg => rfl); (case hr => first | (go_simp; done) | (go_simp; rfl)); intro gb260 hg w8 hbox hb; have n0_ := Aside0.mk (below_step (by repeat (first | (with_reducible first | exact HB.out | apply below_alloc | apply pw_below_drewN | apply below_drew1) | exact HB.out)) hb); have n1_ := Aside0.mk (hbox); have n2_ := Aside0.mk ((by rw [hg]; exact (below_size (by repeat (first | (with_reducible first | exact HB.out | apply below_alloc | apply pw_below_drewN | apply below_drew1) | exact HB.out))) : w.heap.size ≤ gb260)); have n3_ := Aside0.mk ((by rw [hg]; exact (below_size (by repeat (first | (with_reducible first | exact HB.out | apply below_alloc | apply pw_below_drewN | apply below_drew1) | exact HB.out))) : w.heap.size ≤ gb260)); clear HB; have HB := n0_; have BK260 := n1_; have GW260 := n2_; have GE260 := n3_; clear n0_ n1_ n2_ n3_; clear hb hbox hg; have hcz9_0 : w8.cell? ⟨gb260, 0, none⟩ = some (.int .i64 0) := (blk_cell BK260.out 0).trans rfl; have hcz9_1 : w8.cell? ⟨gb260, 1, none⟩ = some (.int .i64 0) := (blk_cell BK260.out 1).trans rfl; have hcz9_2 : w8.cell? ⟨gb260, 2, none⟩ = some (.int .i64 0) := (blk_cell BK260.out 2).trans rfl; have hcz9_3 : w8.cell? ⟨gb260, 3, none⟩ = some (.slice none 0 0) := (blk_cell BK260.out 3).trans rfl; have hcz9_4 : w8.cell? ⟨gb260, 4, none⟩ = some (.int .i64 0) := (blk_cell BK260.out 4).trans rfl; have hcz9_5 : w8.cell? ⟨gb260, 5, none⟩ = some (.int .i64 0) := (blk_cell BK260.out 5).trans rfl; have hcz9_6 : w8.cell? ⟨gb260, 6, none⟩ = some (.int .i64 0) := (blk_cell BK260.out 6).trans rfl; have hcz9_7 : w8.cell? ⟨gb260, 7, none⟩ = some (.slice none 0 0) := (blk_cell BK260.out 7).trans rfl; have hfz9_0 := blk_frozen BK260.out 0; have hfz9_1 := blk_frozen BK260.out 1; have hfz9_2 := blk_frozen BK260.out 2; have hfz9_3 := blk_frozen BK260.out 3; have hfz9_4 := blk_frozen BK260.out 4; have hfz9_5 := blk_frozen BK260.out 5; have hfz9_6 := blk_frozen BK260.out 6; have hfz9_7 := blk_frozen BK260.out 7; have p261 : 0 ≤ (x5_1 : Int) := of_decide_eq_true (by first | (with_reducible assumption) | assumption); have q261 : x5_1 < (l1.length : Int) := of_decide_eq_true (by first | (with_reducible assumption) | assumption); obtain ⟨ad261, A261_3, c261_3, A261_7, c261_7, e261, hx261_0, hx261_1, hx261_2, hx261_3, hx261_4, hx261_5, hx261_6, hx261_7, hl261_3, hi261_3, hl261_7, hi261_7⟩ := at_T47 HR1.out x5_1 p261 q261; cases e261; have hn261_0 : ad261.block ≠ gb260 := Nat.ne_of_lt (Nat.lt_of_lt_of_le (by have := World.block_lt_of_cell? _ _ hx261_0; first | rwa [add_block] at this | exact this) GW260.out); have hn261_1 : ad261.block ≠ gb260 := Nat.ne_of_lt (Nat.lt_of_lt_of_le (by have := World.block_lt_of_cell? _ _ hx261_0; first | rwa [add_block] at this | exact this) GW260.out); have hn261_2 : ad261.block ≠ gb260 := Nat.ne_of_lt (Nat.lt_of_lt_of_le (by have := World.block_lt_of_cell? _ _ hx261_0; first | rwa [add_block] at this | exact this) GW260.out); have hn261_3 : ad261.block ≠ gb260 := Nat.ne_of_lt (Nat.lt_of_lt_of_le (by have := World.block_lt_of_cell? _ _ hx261_0; first | rwa [add_block] at this | exact this) GW260.out); have hn261_4 : ad261.block ≠ gb260 := Nat.ne_of_lt (Nat.lt_of_lt_of_le (by have := World.block_lt_of_cell? _ _ hx261_0; first | rwa [add_block] at this | exact this) GW260.out); have hn261_5 : ad261.block ≠ gb260 := Nat.ne_of_lt (Nat.lt_of_lt_of_le (by have := World.block_lt_of_cell? _ _ hx261_0; first | rwa [add_block] at this | exact this) GW260.out); have hn261_6 : ad261.block ≠ gb260 := Nat.ne_of_lt (Nat.lt_of_lt_of_le (by have := World.block_lt_of_cell? _ _ hx261_0; first | rwa [add_block] at this | exact this) GW260.out); have hn261_7 : ad261.block ≠ gb260 := Nat.ne_of_lt (Nat.lt_of_lt_of_le (by have := World.block_lt_of_cell? _ _ hx261_0; first | rwa [add_block] at this | exact this) GW260.out); replace hx261_0 := (HB.out.cell (World.block_lt_of_cell? w _ hx261_0)).trans hx261_0; replace hx261_1 := (HB.out.cell (World.block_lt_of_cell? w _ hx261_1)).trans hx261_1; replace hx261_2 := (HB.out.cell (World.block_lt_of_cell? w _ hx261_2)).trans hx261_2; replace hx261_3 := (HB.out.cell (World.block_lt_of_cell? w _ hx261_3)).trans hx261_3; replace hx261_4 := (HB.out.cell (World.block_lt_of_cell? w _ hx261_4)).trans hx261_4; replace hx261_5 := (HB.out.cell (World.block_lt_of_cell? w _ hx261_5)).trans hx261_5; replace hx261_6 := (HB.out.cell (World.block_lt_of_cell? w _ hx261_6)).trans hx261_6; replace hx261_7 := (HB.out.cell (World.block_lt_of_cell? w _ hx261_7)).trans hx261_7; have HR261_3 := Aside0.mk hi261_3; have HC261_3 := Aside0.mk hl261_3; clear hi261_3 hl261_3; have HR261_7 := Aside0.mk hi261_7; have HC261_7 := Aside0.mk hl261_7; clear hi261_7 hl261_7; replace hx261_0 := (cell_far (p := ⟨gb260, 0, none⟩) (by first | (rw [add_block]; exact hn261_0) | (show (Addr.add _ _).block ≠ _; rw [add_block]; exact hn261_0) | exact hn261_0) (.int .i64 ((rd_T47 l0 x5_1).f0))).trans hx261_0; replace hx261_1 := (cell_far (p := ⟨gb260, 0, none⟩) (by first | (rw [add_block]; exact hn261_0) | (show (Addr.add _ _).block ≠ _; rw [add_block]; exact hn261_0) | exact hn261_0) (.int .i64 ((rd_T47 l0 x5_1).f0))).trans hx261_1; replace hx261_2 := (cell_far (p := ⟨gb260, 0, none⟩) (by first | (rw [add_block]; exact hn261_0) | (show (Addr.add _ _).block ≠ _; rw [add_block]; exact hn261_0) | exact hn261_0) (.int .i64 ((rd_T47 l0 x5_1).f0))).trans hx261_2; replace hx261_3 := (cell_far (p := ⟨gb260, 0, none⟩) (by first | (rw [add_block]; exact hn261_0) | (show (Addr.add _ _).block ≠ _; rw [add_block]; exact hn261_0) | exact hn261_0) (.int .i64 ((rd_T47 l0 x5_1).f0))).trans hx261_3; replace hx261_4 := (cell_far (p := ⟨gb260, 0, none⟩) (by first | (rw [add_block]; exact hn261_0) | (show (Addr.add _ _).block ≠ _; rw [add_block]; exact hn261_0) | exact hn261_0) (.int .i64 ((rd_T47 l0 x5_1).f0))).trans hx261_4; replace hx261_5 := (cell_far (p := ⟨gb260, 0, none⟩) (by first | (rw [add_block]; exact hn261_0) | (show (Addr.add _ _).block ≠ _; rw [add_block]; exact hn261_0) | exact hn261_0) (.int .i64 ((rd_T47 l0 x5_1).f0))).trans hx261_5; replace hx261_6 := (cell_far (p := ⟨gb260, 0, none⟩) (by first | (rw [add_block]; exact hn261_0) | (show (Addr.add _ _).block ≠ _; rw [add_block]; exact hn261_0) | exact hn261_0) (.int .i64 ((rd_T47 l0 x5_1).f0))).trans hx261_6; replace hx261_7 := (cell_far (p := ⟨gb260, 0, none⟩) (by first | (rw [add_block]; exact hn261_0) | (show (Addr.add _ _).block ≠ _; rw [add_block]; exact hn261_0) | exact hn261_0) (.int .i64 ((rd_T47 l0 x5_1).f0))).trans hx261_7; replace hx261_0 := (cell_far (p := ⟨gb260, 1, none⟩) (by first | (rw [add_block]; exact hn261_1) | (show (Addr.add _ _).block ≠ _; rw [add_block]; exact hn261_1) | exact hn261_1) (.int .i64 ((rd_T47 l0 x5_1).f1))).trans hx261_0; replace hx261_1 := (cell_far (p := ⟨gb260, 1, none⟩) (by first | (rw [add_block]; exact hn261_1) | (show (Addr.add _ _).block ≠ _; rw [add_block]; exact hn261_1) | exact hn261_1) (.int .i64 ((rd_T47 l0 x5_1).f1))).trans hx261_1; replace hx261_2 := (cell_far (p := ⟨gb260, 1, none⟩) (by first | (rw [add_block]; exact hn261_1) | (show (Addr.add _ _).block ≠ _; rw [add_block]; exact hn261_1) | exact hn261_1) (.int .i64 ((rd_T47 l0 x5_1).f1))).trans hx261_2; replace hx261_3 := (cell_far (p := ⟨gb260, 1, none⟩) (by first | (rw [add_block]; exact hn261_1) | (show (Addr.add _ _).block ≠ _; rw [add_block]; exact hn261_1) | exact hn261_1) (.int .i64 ((rd_T47 l0 x5_1).f1))).trans hx261_3; replace hx261_4 := (cell_far (p := ⟨gb260, 1, none⟩) (by first | (rw [add_block]; exact hn261_1) | (show (Addr.add _ _).block ≠ _; rw [add_block]; exact hn261_1) | exact hn261_1) (.int .i64 ((rd_T47 l0 x5_1).f1))).trans hx261_4; replace hx261_5 := (cell_far (p := ⟨gb260, 1, none⟩) (by first | (rw [add_block]; exact hn261_1) | (show (Addr.add _ _).block ≠ _; rw [add_block]; exact hn261_1) | exact hn261_1) (.int .i64 ((rd_T47 l0 x5_1).f1))).trans hx261_5; replace hx261_6 := (cell_far (p := ⟨gb260, 1, none⟩) (by first | (rw [add_block]; exact hn261_1) | (show (Addr.add _ _).block ≠ _; rw [add_block]; exact hn261_1) | exact hn261_1) (.int .i64 ((rd_T47 l0 x5_1).f1))).trans hx261_6; replace hx261_7 := (cell_far (p := ⟨gb260, 1, none⟩) (by first | (rw [add_block]; exact hn261_1) | (show (Addr.add _ _).block ≠ _; rw [add_block]; exact hn261_1) | exact hn261_1) (.int .i64 ((rd_T47 l0 x5_1).f1))).trans hx261_7; replace hx261_0 := (cell_far (p := ⟨gb260, 2, none⟩) (by first | (rw [add_block]; exact hn261_2) | (show (Addr.add _ _).block ≠ _; rw [add_block]; exact hn261_2) | exact hn261_2) (.int .i64 ((rd_T47 l0 x5_1).f2))).trans hx261_0; replace hx261_1 := (cell_far (p := ⟨gb260, 2, none⟩) (by first | (rw [add_block]; exact hn261_2) | (show (Addr.add _ _).block ≠ _; rw [add_block]; exact hn261_2) | exact hn261_2) (.int .i64 ((rd_T47 l0 x5_1).f2))).trans hx261_1; replace hx261_2 := (cell_far (p := ⟨gb260, 2, none⟩) (by first | (rw [add_block]; exact hn261_2) | (show (Addr.add _ _).block ≠ _; rw [add_block]; exact hn261_2) | exact hn261_2) (.int .i64 ((rd_T47 l0 x5_1).f2))).trans hx261_2; replace hx261_3 := (cell_far (p := ⟨gb260, 2, none⟩) (by first | (rw [add_block]; exact hn261_2) | (show (Addr.add _ _).block ≠ _; rw [add_block]; exact hn261_2) | exact hn261_2) (.int .i64 ((rd_T47 l0 x5_1).f2))).trans hx261_3; replace hx261_4 := (cell_far (p := ⟨gb260, 2, none⟩) (by first | (rw [add_block]; exact hn261_2) | (show (Addr.add _ _).block ≠ _; rw [add_block]; exact hn261_2) | exact hn261_2) (.int .i64 ((rd_T47 l0 x5_1).f2))).trans hx261_4; replace hx261_5 := (cell_far (p := ⟨gb260, 2, none⟩) (by first | (rw [add_block]; exact hn261_2) | (show (Addr.add _ _).block ≠ _; rw [add_block]; exact hn261_2) | exact hn261_2) (.int .i64 ((rd_T47 l0 x5_1).f2))).trans hx261_5; replace hx261_6 := (cell_far (p := ⟨gb260, 2, none⟩) (by first | (rw [add_block]; exact hn261_2) | (show (Addr.add _ _).block ≠ _; rw [add_block]; exact hn261_2) | exact hn261_2) (.int .i64 ((rd_T47 l0 x5_1).f2))).trans hx261_6; replace hx261_7 := (cell_far (p := ⟨gb260, 2, none⟩) (by first | (rw [add_block]; exact hn261_2) | (show (Addr.add _ _).block ≠ _; rw [add_block]; exact hn261_2) | exact hn261_2) (.int .i64 ((rd_T47 l0 x5_1).f2))).trans hx261_7; replace hx261_0 := (cell_far (p := ⟨gb260, 3, none⟩) (by first | (rw [add_block]; exact hn261_3) | (show (Addr.add _ _).block ≠ _; rw [add_block]; exact hn261_3) | exact hn261_3) (.slice A259_3 ((rd_T47 l0 x5_1).f3).length c259_3)).trans hx261_0; replace hx261_1 := (cell_far (p := ⟨gb260, 3, none⟩) (by first | (rw [add_block]; exact hn261_3) | (show (Addr.add _ _).block ≠ _; rw [add_block]; exact hn261_3) | exact hn261_3) (.slice A259_3 ((rd_T47 l0 x5_1).f3).length c259_3)).trans hx261_1; replace hx261_2 := (cell_far (p := ⟨gb260, 3, none⟩) (by first | (rw [add_block]; exact hn261_3) | (show (Addr.add _ _).block ≠ _; rw [add_block]; exact hn261_3) | exact hn261_3) (.slice A259_3 ((rd_T47 l0 x5_1).f3).length c259_3)).trans hx261_2; replace hx261_3 := (cell_far (p := ⟨gb260, 3, none⟩) (by first | (rw [add_block]; exact hn261_3) | (show (Addr.add _ _).block ≠ _; rw [add_block]; exact hn261_3) | exact hn261_3) (.slice A259_3 ((rd_T47 l0 x5_1).f3).length c259_3)).trans hx261_3; replace hx261_4 := (cell_far (p := ⟨gb260, 3, none⟩) (by first | (rw [add_block]; exact hn261_3) | (show (Addr.add _ _).block ≠ _; rw [add_block]; exact hn261_3) | exact hn261_3) (.slice A259_3 ((rd_T47 l0 x5_1).f3).length c259_3)).trans hx261_4; replace hx261_5 := (cell_far (p := ⟨gb260, 3, none⟩) (by first | (rw [add_block]; exact hn261_3) | (show (Addr.add _ _).block ≠ _; rw [add_block]; exact hn261_3) | exact hn261_3) (.slice A259_3 ((rd_T47 l0 x5_1).f3).length c259_3)).trans hx261_5; replace hx261_6 := (cell_far (p := ⟨gb260, 3, none⟩) (by first | (rw [add_block]; exact hn261_3) | (show (Addr.add _ _).block ≠ _; rw [add_block]; exact hn261_3) | exact hn261_3) (.slice A259_3 ((rd_T47 l0 x5_1).f3).length c259_3)).trans hx261_6; replace hx261_7 := (cell_far (p := ⟨gb260, 3, none⟩) (by first | (rw [add_block]; exact hn261_3) | (show (Addr.add _ _).block ≠ _; rw [add_block]; exact hn261_3) | exact hn261_3) (.slice A259_3 ((rd_T47 l0 x5_1).f3).length c259_3)).trans hx261_7; replace hx261_0 := (cell_far (p := ⟨gb260, 4, none⟩) (by first | (rw [add_block]; exact hn261_4) | (show (Addr.add _ _).block ≠ _; rw [add_block]; exact hn261_4) | exact hn261_4) (.int .i64 ((rd_T47 l0 x5_1).f4))).trans hx261_0; replace hx261_1 := (cell_far (p := ⟨gb260, 4, none⟩) (by first | (rw [add_block]; exact hn261_4) | (show (Addr.add _ _).block ≠ _; rw [add_block]; exact hn261_4) | exact hn261_4) (.int .i64 ((rd_T47 l0 x5_1).f4))).trans hx261_1; replace hx261_2 := (cell_far (p := ⟨gb260, 4, none⟩) (by first | (rw [add_block]; exact hn261_4) | (show (Addr.add _ _).block ≠ _; rw [add_block]; exact hn261_4) | exact hn261_4) (.int .i64 ((rd_T47 l0 x5_1).f4))).trans hx261_2; replace hx261_3 := (cell_far (p := ⟨gb260, 4, none⟩) (by first | (rw [add_block]; exact hn261_4) | (show (Addr.add _ _).block ≠ _; rw [add_block]; exact hn261_4) | exact hn261_4) (.int .i64 ((rd_T47 l0 x5_1).f4))).trans hx261_3; replace hx261_4 := (cell_far (p := ⟨gb260, 4, none⟩) (by first | (rw [add_block]; exact hn261_4) | (show (Addr.add _ _).block ≠ _; rw [add_block]; exact hn261_4) | exact hn261_4) (.int .i64 ((rd_T47 l0 x5_1).f4))).trans hx261_4; replace hx261_5 := (cell_far (p := ⟨gb260, 4, none⟩) (by first | (rw [add_block]; exact hn261_4) | (show (Addr.add _ _).block ≠ _; rw [add_block]; exact hn261_4) | exact hn261_4) (.int .i64 ((rd_T47 l0 x5_1).f4))).trans hx261_5; replace hx261_6 := (cell_far (p := ⟨gb260, 4, none⟩) (by first | (rw [add_block]; exact hn261_4) | (show (Addr.add _ _).block ≠ _; rw [add_block]; exact hn261_4) | exact hn261_4) (.int .i64 ((rd_T47 l0 x5_1).f4))).trans hx261_6; replace hx261_7 := (cell_far (p := ⟨gb260, 4, none⟩) (by first | (rw [add_block]; exact hn261_4) | (show (Addr.add _ _).block ≠ _; rw [add_block]; exact hn261_4) | exact hn261_4) (.int .i64 ((rd_T47 l0 x5_1).f4))).trans hx261_7; replace hx261_0 := (cell_far (p := ⟨gb260, 5, none⟩) (by first | (rw [add_block]; exact hn261_5) | (show (Addr.add _ _).block ≠ _; rw [add_block]; exact hn261_5) | exact hn261_5) (.int .i64 ((rd_T47 l0 x5_1).f5))).trans hx261_0; replace hx261_1 := (cell_far (p := ⟨gb260, 5, none⟩) (by first | (rw [add_block]; exact hn261_5) | (show (Addr.add _ _).block ≠ _; rw [add_block]; exact hn261_5) | exact hn261_5) (.int .i64 ((rd_T47 l0 x5_1).f5))).trans hx261_1; replace hx261_2 := (cell_far (p := ⟨gb260, 5, none⟩) (by first | (rw [add_block]; exact hn261_5) | (show (Addr.add _ _).block ≠ _; rw [add_block]; exact hn261_5) | exact hn261_5) (.int .i64 ((rd_T47 l0 x5_1).f5))).trans hx261_2; replace hx261_3 := (cell_far (p := ⟨gb260, 5, none⟩) (by first | (rw [add_block]; exact hn261_5) | (show (Addr.add _ _).block ≠ _; rw [add_block]; exact hn261_5) | exact hn261_5) (.int .i64 ((rd_T47 l0 x5_1).f5))).trans hx261_3; replace hx261_4 := (cell_far (p := ⟨gb260, 5, none⟩) (by first | (rw [add_block]; exact hn261_5) | (show (Addr.add _ _).block ≠ _; rw [add_block]; exact hn261_5) | exact hn261_5) (.int .i64 ((rd_T47 l0 x5_1).f5))).trans hx261_4; replace hx261_5 := (cell_far (p := ⟨gb260, 5, none⟩) (by first | (rw [add_block]; exact hn261_5) | (show (Addr.add _ _).block ≠ _; rw [add_block]; exact hn261_5) | exact hn261_5) (.int .i64 ((rd_T47 l0 x5_1).f5))).trans hx261_5; replace hx261_6 := (cell_far (p := ⟨gb260, 5, none⟩) (by first | (rw [add_block]; exact hn261_5) | (show (Addr.add _ _).block ≠ _; rw [add_block]; exact hn261_5) | exact hn261_5) (.int .i64 ((rd_T47 l0 x5_1).f5))).trans hx261_6; replace hx261_7 := (cell_far (p := ⟨gb260, 5, none⟩) (by first | (rw [add_block]; exact hn261_5) | (show (Addr.add _ _).block ≠ _; rw [add_block]; exact hn261_5) | exact hn261_5) (.int .i64 ((rd_T47 l0 x5_1).f5))).trans hx261_7; replace hx261_0 := (cell_far (p := ⟨gb260, 6, none⟩) (by first | (rw [add_block]; exact hn261_6) | (show (Addr.add _ _).block ≠ _; rw [add_block]; exact hn261_6) | exact hn261_6) (.int .i64 ((rd_T47 l0 x5_1).f6))).trans hx261_0; replace hx261_1 := (cell_far (p := ⟨gb260, 6, none⟩) (by first | (rw [add_block]; exact hn261_6) | (show (Addr.add _ _).block ≠ _; rw [add_block]; exact hn261_6) | exact hn261_6) (.int .i64 ((rd_T47 l0 x5_1).f6))).trans hx261_1; replace hx261_2 := (cell_far (p := ⟨gb260, 6, none⟩) (by first | (rw [add_block]; exact hn261_6) | (show (Addr.add _ _).block ≠ _; rw [add_block]; exact hn261_6) | exact hn261_6) (.int .i64 ((rd_T47 l0 x5_1).f6))).trans hx261_2; replace hx261_3 := (cell_far (p := ⟨gb260, 6, none⟩) (by first | (rw [add_block]; exact hn261_6) | (show (Addr.add _ _).block ≠ _; rw [add_block]; exact hn261_6) | exact hn261_6) (.int .i64 ((rd_T47 l0 x5_1).f6))).trans hx261_3; replace hx261_4 := (cell_far (p := ⟨gb260, 6, none⟩) (by first | (rw [add_block]; exact hn261_6) | (show (Addr.add _ _).block ≠ _; rw [add_block]; exact hn261_6) | exact hn261_6) (.int .i64 ((rd_T47 l0 x5_1).f6))).trans hx261_4; replace hx261_5 := (cell_far (p := ⟨gb260, 6, none⟩) (by first | (rw [add_block]; exact hn261_6) | (show (Addr.add _ _).block ≠ _; rw [add_block]; exact hn261_6) | exact hn261_6) (.int .i64 ((rd_T47 l0 x5_1).f6))).trans hx261_5; replace hx261_6 := (cell_far (p := ⟨gb260, 6, none⟩) (by first | (rw [add_block]; exact hn261_6) | (show (Addr.add _ _).block ≠ _; rw [add_block]; exact hn261_6) | exact hn261_6) (.int .i64 ((rd_T47 l0 x5_1).f6))).trans hx261_6; replace hx261_7 := (cell_far (p := ⟨gb260, 6, none⟩) (by first | (rw [add_block]; exact hn261_6) | (show (Addr.add _ _).block ≠ _; rw [add_block]; exact hn261_6) | exact hn261_6) (.int .i64 ((rd_T47 l0 x5_1).f6))).trans hx261_7; replace hx261_0 := (cell_far (p := ⟨gb260, 7, none⟩) (by first | (rw [add_block]; exact hn261_7) | (show (Addr.add _ _).block ≠ _; rw [add_block]; exact hn261_7) | exact hn261_7) (.slice A259_7 ((rd_T47 l0 x5_1).f7).length c259_7)).trans hx261_0; replace hx261_1 := (cell_far (p := ⟨gb260, 7, none⟩) (by first | (rw [add_block]; exact hn261_7) | (show (Addr.add _ _).block ≠ _; rw [add_block]; exact hn261_7) | exact hn261_7) (.slice A259_7 ((rd_T47 l0 x5_1).f7).length c259_7)).trans hx261_1; replace hx261_2 := (cell_far (p := ⟨gb260, 7, none⟩) (by first | (rw [add_block]; exact hn261_7) | (show (Addr.add _ _).block ≠ _; rw [add_block]; exact hn261_7) | exact hn261_7) (.slice A259_7 ((rd_T47 l0 x5_1).f7).length c259_7)).trans hx261_2; replace hx261_3 := (cell_far (p := ⟨gb260, 7, none⟩) (by first | (rw [add_block]; exact hn261_7) | (show (Addr.add _ _).block ≠ _; rw [add_block]; exact hn261_7) | exact hn261_7) (.slice A259_7 ((rd_T47 l0 x5_1).f7).length c259_7)).trans hx261_3; replace hx261_4 := (cell_far (p := ⟨gb260, 7, none⟩) (by first | (rw [add_block]; exact hn261_7) | (show (Addr.add _ _).block ≠ _; rw [add_block]; exact hn261_7) | exact hn261_7) (.slice A259_7 ((rd_T47 l0 x5_1).f7).length c259_7)).trans hx261_4; replace hx261_5 := (cell_far (p := ⟨gb260, 7, none⟩) (by first | (rw [add_block]; exact hn261_7) | (show (Addr.add _ _).block ≠ _; rw [add_block]; exact hn261_7) | exact hn261_7) (.slice A259_7 ((rd_T47 l0 x5_1).f7).length c259_7)).trans hx261_5; replace hx261_6 := (cell_far (p := ⟨gb260, 7, none⟩) (by first | (rw [add_block]; exact hn261_7) | (show (Addr.add _ _).block ≠ _; rw [add_block]; exact hn261_7) | exact hn261_7) (.slice A259_7 ((rd_T47 l0 x5_1).f7).length c259_7)).trans hx261_6; replace hx261_7 := (cell_far (p := ⟨gb260, 7, none⟩) (by first | (rw [add_block]; exact hn261_7) | (show (Addr.add _ _).block ≠ _; rw [add_block]; exact hn261_7) | exact hn261_7) (.slice A259_7 ((rd_T47 l0 x5_1).f7).length c259_7)).trans hx261_7; clear hn261_0; clear hn261_1; clear hn261_2; clear hn261_3; clear hn261_4; clear hn261_5; clear hn261_6; clear hn261_7; replace p261 := eq_true p261; replace q261 := eq_true q261) | ((with_reducible refine gate_dst (N := 7) rfl ?_); refine box_event ?hg (N := 7) ?hd (cs := #[.int .i64 0, .int .i64 0, .int .i64 0, .slice none 0 0, .int .i64 0, .int .i64 0, .int .i64 0, .slice none 0 0]) (t := 47) ?hr ?_; (case hd => rfl); (case hg => rfl); (case hr => first | (go_simp; done) | (go_simp; rfl)); intro gb262 hg w10 hbox hb; have n0_ := Aside0.mk (blk_below (g := gb260) (o := .cells #[.int .i64 ((rd_T47 l0 x5_1).f0), .int .i64 ((rd_T47 l0 x5_1).f1), .int .i64 ((rd_T47 l0 x5_1).f2), .slice A259_3 ((rd_T47 l0 x5_1).f3).length c259_3, .int .i64 ((rd_T47 l0 x5_1).f4), .int .i64 ((rd_T47 l0 x5_1).f5), .int .i64 ((rd_T47 l0 x5_1).f6), .slice A259_7 ((rd_T47 l0 x5_1).f7).length c259_7] 47 (0, 0)) (by (with_reducible repeat (first | refine blk_drewN ?_ _ | refine blk_drew ?_ | refine blk_alloc ?_ _)); refine blk_put (cs := #[.int .i64 ((rd_T47 l0 x5_1).f0), .int .i64 ((rd_T47 l0 x5_1).f1), .int .i64 ((rd_T47 l0 x5_1).f2), .slice A259_3 ((rd_T47 l0 x5_1).f3).length c259_3, .int .i64 ((rd_T47 l0 x5_1).f4), .int .i64 ((rd_T47 l0 x5_1).f5), .int .i64 ((rd_T47 l0 x5_1).f6), .slice none 0 0]) ?_ 7 _ rfl; (with_reducible repeat (first | refine blk_drewN ?_ _ | refine blk_drew ?_ | refine blk_alloc ?_ _)); refine blk_put (cs := #[.int .i64 ((rd_T47 l0 x5_1).f0), .int .i64 ((rd_T47 l0 x5_1).f1), .int .i64 ((rd_T47 l0 x5_1).f2), .slice A259_3 ((rd_T47 l0 x5_1).f3).length c259_3, .int .i64 ((rd_T47 l0 x5_1).f4), .int .i64 ((rd_T47 l0 x5_1).f5), .int .i64 0, .slice none 0 0]) ?_ 6 _ rfl; (with_reducible repeat (first | refine blk_drewN ?_ _ | refine blk_drew ?_ | refine blk_alloc ?_ _)); refine blk_put (cs := #[.int .i64 ((rd_T47 l0 x5_1).f0), .int .i64 ((rd_T47 l0 x5_1).f1), .int .i64 ((rd_T47 l0 x5_1).f2), .slice A259_3 ((rd_T47 l0 x5_1).f3).length c259_3, .int .i64 ((rd_T47 l0 x5_1).f4), .int .i64 0, .int .i64 0, .slice none 0 0]) ?_ 5 _ rfl; (with_reducible repeat (first | refine blk_drewN ?_ _ | refine blk_drew ?_ | refine blk_alloc ?_ _)); refine blk_put (cs := #[.int .i64 ((rd_T47 l0 x5_1).f0), .int .i64 ((rd_T47 l0 x5_1).f1), .int .i64 ((rd_T47 l0 x5_1).f2), .slice A259_3 ((rd_T47 l0 x5_1).f3).length c259_3, .int .i64 0, .int .i64 0, .int .i64 0, .slice none 0 0]) ?_ 4 _ rfl; (with_reducible repeat (first | refine blk_drewN ?_ _ | refine blk_drew ?_ | refine blk_alloc ?_ _)); refine blk_put (cs := #[.int .i64 ((rd_T47 l0 x5_1).f0), .int .i64 ((rd_T47 l0 x5_1).f1), .int .i64 ((rd_T47 l0 x5_1).f2), .slice none 0 0, .int .i64 0, .int .i64 0, .int .i64 0, .slice none 0 0]) ?_ 3 _ rfl; (with_reducible repeat (first | refine blk_drewN ?_ _ | refine blk_drew ?_ | refine blk_alloc ?_ _)); refine blk_put (cs := #[.int .i64 ((rd_T47 l0 x5_1).f0), .int .i64 ((rd_T47 l0 x5_1).f1), .int .i64 0, .slice none 0 0, .int .i64 0, .int .i64 0, .int .i64 0, .slice none 0 0]) ?_ 2 _ rfl; (with_reducible repeat (first | refine blk_drewN ?_ _ | refine blk_drew ?_ | refine blk_alloc ?_ _)); refine blk_put (cs := #[.int .i64 ((rd_T47 l0 x5_1).f0), .int .i64 0, .int .i64 0, .slice none 0 0, .int .i64 0, .int .i64 0, .int .i64 0, .slice none 0 0]) ?_ 1 _ rfl; (with_reducible repeat (first | refine blk_drewN ?_ _ | refine blk_drew ?_ | refine blk_alloc ?_ _)); refine blk_put (cs := #[.int .i64 0, .int .i64 0, .int .i64 0, .slice none 0 0, .int .i64 0, .int .i64 0, .int .i64 0, .slice none 0 0]) ?_ 0 _ rfl; (with_reducible repeat (first | refine blk_drewN ?_ _ | refine blk_drew ?_ | refine blk_alloc ?_ _)); exact BK260.out) hb); have n1_ := Aside0.mk (below_step (by repeat (first | (with_reducible first | exact HB.out | apply below_alloc | apply pw_below_drewN | apply below_drew1 | refine below_set ?_ GE260.out) | exact HB.out)) hb); have n2_ := Aside0.mk (hbox); have n3_ := Aside0.mk ((by rw [hg]; exact (below_size (by repeat (first | (with_reducible first | exact HB.out | apply below_alloc | apply pw_below_drewN | apply below_drew1 | refine below_set ?_ GE260.out) | exact HB.out))) : w.heap.size ≤ gb262)); have n4_ := Aside0.mk ((by rw [hg]; exact (below_size (by repeat (first | (with_reducible first | exact HB.out | apply below_alloc | apply pw_below_drewN | apply below_drew1 | refine below_set ?_ GE260.out) | exact HB.out))) : w.heap.size ≤ gb262)); have n5_ := Aside0.mk ((by rw [hg]; exact Nat.ne_of_lt (blk_lt (g := gb260) (o := .cells #[.int .i64 ((rd_T47 l0 x5_1).f0), .int .i64 ((rd_T47 l0 x5_1).f1), .int .i64 ((rd_T47 l0 x5_1).f2), .slice A259_3 ((rd_T47 l0 x5_1).f3).length c259_3, .int .i64 ((rd_T47 l0 x5_1).f4), .int .i64 ((rd_T47 l0 x5_1).f5), .int .i64 ((rd_T47 l0 x5_1).f6), .slice A259_7 ((rd_T47 l0 x5_1).f7).length c259_7] 47 (0, 0)) (by (with_reducible repeat (first | refine blk_drewN ?_ _ | refine blk_drew ?_ | refine blk_alloc ?_ _)); refine blk_put (cs := #[.int .i64 ((rd_T47 l0 x5_1).f0), .int .i64 ((rd_T47 l0 x5_1).f1), .int .i64 ((rd_T47 l0 x5_1).f2), .slice A259_3 ((rd_T47 l0 x5_1).f3).length c259_3, .int .i64 ((rd_T47 l0 x5_1).f4), .int .i64 ((rd_T47 l0 x5_1).f5), .int .i64 ((rd_T47 l0 x5_1).f6), .slice none 0 0]) ?_ 7 _ rfl; (with_reducible repeat (first | refine blk_drewN ?_ _ | refine blk_drew ?_ | refine blk_alloc ?_ _)); refine blk_put (cs := #[.int .i64 ((rd_T47 l0 x5_1).f0), .int .i64 ((rd_T47 l0 x5_1).f1), .int .i64 ((rd_T47 l0 x5_1).f2), .slice A259_3 ((rd_T47 l0 x5_1).f3).length c259_3, .int .i64 ((rd_T47 l0 x5_1).f4), .int .i64 ((rd_T47 l0 x5_1).f5), .int .i64 0, .slice none 0 0]) ?_ 6 _ rfl; (with_reducible repeat (first | refine blk_drewN ?_ _ | refine blk_drew ?_ | refine blk_alloc ?_ _)); refine blk_put (cs := #[.int .i64 ((rd_T47 l0 x5_1).f0), .int .i64 ((rd_T47 l0 x5_1).f1), .int .i64 ((rd_T47 l0 x5_1).f2), .slice A259_3 ((rd_T47 l0 x5_1).f3).length c259_3, .int .i64 ((rd_T47 l0 x5_1).f4), .int .i64 0, .int .i64 0, .slice none 0 0]) ?_ 5 _ rfl; (with_reducible repeat (first | refine blk_drewN ?_ _ | refine blk_drew ?_ | refine blk_alloc ?_ _)); refine blk_put (cs := #[.int .i64 ((rd_T47 l0 x5_1).f0), .int .i64 ((rd_T47 l0 x5_1).f1), .int .i64 ((rd_T47 l0 x5_1).f2), .slice A259_3 ((rd_T47 l0 x5_1).f3).length c259_3, .int .i64 0, .int .i64 0, .int .i64 0, .slice none 0 0]) ?_ 4 _ rfl; (with_reducible repeat (first | refine blk_drewN ?_ _ | refine blk_drew ?_ | refine blk_alloc ?_ _)); refine blk_put (cs := #[.int .i64 ((rd_T47 l0 x5_1).f0), .int .i64 ((rd_T47 l0 x5_1).f1), .int .i64 ((rd_T47 l0 x5_1).f2), .slice none 0 0, .int .i64 0, .int .i64 0, .int .i64 0, .slice none 0 0]) ?_ 3 _ rfl; (with_reducible repeat (first | refine blk_drewN ?_ _ | refine blk_drew ?_ | refine blk_alloc ?_ _)); refine blk_put (cs := #[.int .i64 ((rd_T47 l0 x5_1).f0), .int .i64 ((rd_T47 l0 x5_1).f1), .int .i64 0, .slice none 0 0, .int .i64 0, .int .i64 0, .int .i64 0, .slice none 0 0]) ?_ 2 _ rfl; (with_reducible repeat (first | refine blk_drewN ?_ _ | refine blk_drew ?_ | refine blk_alloc ?_ _)); refine blk_put (cs := #[.int .i64 ((rd_T47 l0 x5_1).f0), .int .i64 0, .int .i64 0, .slice none 0 0, .int .i64 0, .int .i64 0, .int .i64 0, .slice none 0 0]) ?_ 1 _ rfl; (with_reducible repeat (first | refine blk_drewN ?_ _ | refine blk_drew ?_ | refine blk_alloc ?_ _)); refine blk_put (cs := #[.int .i64 0, .int .i64 0, .int .i64 0, .slice none 0 0, .int .i64 0, .int .i64 0, .int .i64 0, .slice none 0 0]) ?_ 0 _ rfl; (with_reducible repeat (first | refine blk_drewN ?_ _ | refine blk_drew ?_ | refine blk_alloc ?_ _)); exact BK260.out)) : gb260 ≠ gb262)); have n6_ := Aside0.mk ((by rw [hg]; exact Nat.ne_of_gt (blk_lt (g := gb260) (o := .cells #[.int .i64 ((rd_T47 l0 x5_1).f0), .int .i64 ((rd_T47 l0 x5_1).f1), .int .i64 ((rd_T47 l0 x5_1).f2), .slice A259_3 ((rd_T47 l0 x5_1).f3).length c259_3, .int .i64 ((rd_T47 l0 x5_1).f4), .int .i64 ((rd_T47 l0 x5_1).f5), .int .i64 ((rd_T47 l0 x5_1).f6), .slice A259_7 ((rd_T47 l0 x5_1).f7).length c259_7] 47 (0, 0)) (by (with_reducible repeat (first | refine blk_drewN ?_ _ | refine blk_drew ?_ | refine blk_alloc ?_ _)); refine blk_put (cs := #[.int .i64 ((rd_T47 l0 x5_1).f0), .int .i64 ((rd_T47 l0 x5_1).f1), .int .i64 ((rd_T47 l0 x5_1).f2), .slice A259_3 ((rd_T47 l0 x5_1).f3).length c259_3, .int .i64 ((rd_T47 l0 x5_1).f4), .int .i64 ((rd_T47 l0 x5_1).f5), .int .i64 ((rd_T47 l0 x5_1).f6), .slice none 0 0]) ?_ 7 _ rfl; (with_reducible repeat (first | refine blk_drewN ?_ _ | refine blk_drew ?_ | refine blk_alloc ?_ _)); refine blk_put (cs := #[.int .i64 ((rd_T47 l0 x5_1).f0), .int .i64 ((rd_T47 l0 x5_1).f1), .int .i64 ((rd_T47 l0 x5_1).f2), .slice A259_3 ((rd_T47 l0 x5_1).f3).length c259_3, .int .i64 ((rd_T47 l0 x5_1).f4), .int .i64 ((rd_T47 l0 x5_1).f5), .int .i64 0, .slice none 0 0]) ?_ 6 _ rfl; (with_reducible repeat (first | refine blk_drewN ?_ _ | refine blk_drew ?_ | refine blk_alloc ?_ _)); refine blk_put (cs := #[.int .i64 ((rd_T47 l0 x5_1).f0), .int .i64 ((rd_T47 l0 x5_1).f1), .int .i64 ((rd_T47 l0 x5_1).f2), .slice A259_3 ((rd_T47 l0 x5_1).f3).length c259_3, .int .i64 ((rd_T47 l0 x5_1).f4), .int .i64 0, .int .i64 0, .slice none 0 0]) ?_ 5 _ rfl; (with_reducible repeat (first | refine blk_drewN ?_ _ | refine blk_drew ?_ | refine blk_alloc ?_ _)); refine blk_put (cs := #[.int .i64 ((rd_T47 l0 x5_1).f0), .int .i64 ((rd_T47 l0 x5_1).f1), .int .i64 ((rd_T47 l0 x5_1).f2), .slice A259_3 ((rd_T47 l0 x5_1).f3).length c259_3, .int .i64 0, .int .i64 0, .int .i64 0, .slice none 0 0]) ?_ 4 _ rfl; (with_reducible repeat (first | refine blk_drewN ?_ _ | refine blk_drew ?_ | refine blk_alloc ?_ _)); refine blk_put (cs := #[.int .i64 ((rd_T47 l0 x5_1).f0), .int .i64 ((rd_T47 l0 x5_1).f1), .int .i64 ((rd_T47 l0 x5_1).f2), .slice none 0 0, .int .i64 0, .int .i64 0, .int .i64 0, .slice none 0 0]) ?_ 3 _ rfl; (with_reducible repeat (first | refine blk_drewN ?_ _ | refine blk_drew ?_ | refine blk_alloc ?_ _)); refine blk_put (cs := #[.int .i64 ((rd_T47 l0 x5_1).f0), .int .i64 ((rd_T47 l0 x5_1).f1), .int .i64 0, .slice none 0 0, .int .i64 0, .int .i64 0, .int .i64 0, .slice none 0 0]) ?_ 2 _ rfl; (with_reducible repeat (first | refine blk_drewN ?_ _ | refine blk_drew ?_ | refine blk_alloc ?_ _)); refine blk_put (cs := #[.int .i64 ((rd_T47 l0 x5_1).f0), .int .i64 0, .int .i64 0, .slice none 0 0, .int .i64 0, .int .i64 0, .int .i64 0, .slice none 0 0]) ?_ 1 _ rfl; (with_reducible repeat (first | refine blk_drewN ?_ _ | refine blk_drew ?_ | refine blk_alloc ?_ _)); refine blk_put (cs := #[.int .i64 0, .int .i64 0, .int .i64 0, .slice none 0 0, .int .i64 0, .int .i64 0, .int .i64 0, .slice none 0 0]) ?_ 0 _ rfl; (with_reducible repeat (first | refine blk_drewN ?_ _ | refine blk_drew ?_ | refine blk_alloc ?_ _)); exact BK260.out)) : gb262 ≠ gb260)); clear BK260; clear HB; have BK260 := n0_; have HB := n1_; have BK262 := n2_; have GW262 := n3_; have GE262 := n4_; have NB260_262 := n5_; have NB262_260 := n6_; clear n0_ n1_ n2_ n3_ n4_ n5_ n6_; clear hb hbox hg; have hnb11 := NB262_260.out; have hnc11 := NB260_262.out; have hcz12_0 : w10.cell? ⟨gb262, 0, none⟩ = some (.int .i64 0) := (blk_cell BK262.out 0).trans rfl; have hcz12_1 : w10.cell? ⟨gb262, 1, none⟩ = some (.int .i64 0) := (blk_cell BK262.out 1).trans rfl; have hcz12_2 : w10.cell? ⟨gb262, 2, none⟩ = some (.int .i64 0) := (blk_cell BK262.out 2).trans rfl; have hcz12_3 : w10.cell? ⟨gb262, 3, none⟩ = some (.slice none 0 0) := (blk_cell BK262.out 3).trans rfl; have hcz12_4 : w10.cell? ⟨gb262, 4, none⟩ = some (.int .i64 0) := (blk_cell BK262.out 4).trans rfl; have hcz12_5 : w10.cell? ⟨gb262, 5, none⟩ = some (.int .i64 0) := (blk_cell BK262.out 5).trans rfl; have hcz12_6 : w10.cell? ⟨gb262, 6, none⟩ = some (.int .i64 0) := (blk_cell BK262.out 6).trans rfl; have hcz12_7 : w10.cell? ⟨gb262, 7, none⟩ = some (.slice none 0 0) := (blk_cell BK262.out 7).trans rfl; have hfz12_0 := blk_frozen BK262.out 0; have hfz12_1 := blk_frozen BK262.out 1; have hfz12_2 := blk_frozen BK262.out 2; have hfz12_3 := blk_frozen BK262.out 3; have hfz12_4 := blk_frozen BK262.out 4; have hfz12_5 := blk_frozen BK262.out 5; have hfz12_6 := blk_frozen BK262.out 6; have hfz12_7 := blk_frozen BK262.out 7))
              (try simp only [Act.put, List.setIfInBounds_toArray, List.set_cons_zero, List.set_cons_succ])
              go_cut [66] (fun v66 wc => ∃ (kq : Nat) (x66_6 : Bool), v66 = .bool x66_6 ∧ Aside0 (portagekit_sameIns.j1 kq l0 l1 x5_1 x66_6 ((rd_T47 l0 x5_1).f0) ((rd_T47 l0 x5_1).f1) ((rd_T47 l0 x5_1).f2) ((rd_T47 l0 x5_1).f3) ((rd_T47 l0 x5_1).f4) ((rd_T47 l0 x5_1).f5) ((rd_T47 l0 x5_1).f6) ((rd_T47 l0 x5_1).f7) ((rd_T47 l1 x5_1).f0) ((rd_T47 l1 x5_1).f1) ((rd_T47 l1 x5_1).f2) ((rd_T47 l1 x5_1).f3) ((rd_T47 l1 x5_1).f4) ((rd_T47 l1 x5_1).f5) ((rd_T47 l1 x5_1).f6) ((rd_T47 l1 x5_1).f7) = some r) ∧ Aside0 (kq ≤ k1) ∧ Aside0 (wc.heap[gb260]? = some (.cells #[.int .i64 ((rd_T47 l0 x5_1).f0), .int .i64 ((rd_T47 l0 x5_1).f1), .int .i64 ((rd_T47 l0 x5_1).f2), (.slice A259_3 ((rd_T47 l0 x5_1).f3).length c259_3), .int .i64 ((rd_T47 l0 x5_1).f4), .int .i64 ((rd_T47 l0 x5_1).f5), .int .i64 ((rd_T47 l0 x5_1).f6), (.slice A259_7 ((rd_T47 l0 x5_1).f7).length c259_7)] 47 (0, 0))) ∧ Aside0 (wc.heap[gb262]? = some (.cells #[.int .i64 ((rd_T47 l1 x5_1).f0), .int .i64 ((rd_T47 l1 x5_1).f1), .int .i64 ((rd_T47 l1 x5_1).f2), (.slice A261_3 ((rd_T47 l1 x5_1).f3).length c261_3), .int .i64 ((rd_T47 l1 x5_1).f4), .int .i64 ((rd_T47 l1 x5_1).f5), .int .i64 ((rd_T47 l1 x5_1).f6), (.slice A261_7 ((rd_T47 l1 x5_1).f7).length c261_7)] 47 (0, 0))) ∧ Aside0 (Below w.heap.size w wc))
              case first =>
                have H := HC7.out
                clear HC7
                by_cases c13 : ((rd_T47 l0 x5_1).f0) = ((rd_T47 l1 x5_1).f0)
                · rw [if_pos c13] at H
                  have c13b0 : (((rd_T47 l0 x5_1).f0) == ((rd_T47 l1 x5_1).f0)) = true := beq_iff_eq.mpr c13
                  have c13b1 : (((rd_T47 l0 x5_1).f0) != ((rd_T47 l1 x5_1).f0)) = false := bne_eq_false_iff_eq.mpr c13
                  clear c13
                  (first | rw [c13b0] | (simp only [i64_w, i32_w]; rw [c13b0]) | skip)
                  by_cases c14 : ((rd_T47 l0 x5_1).f1) = ((rd_T47 l1 x5_1).f1)
                  · rw [if_pos c14] at H
                    have c14b0 : (((rd_T47 l0 x5_1).f1) == ((rd_T47 l1 x5_1).f1)) = true := beq_iff_eq.mpr c14
                    have c14b1 : (((rd_T47 l0 x5_1).f1) != ((rd_T47 l1 x5_1).f1)) = false := bne_eq_false_iff_eq.mpr c14
                    clear c14
                    by_cases c15 : ((rd_T47 l0 x5_1).f2) = ((rd_T47 l1 x5_1).f2)
                    · rw [if_pos c15] at H
                      have c15b0 : (((rd_T47 l0 x5_1).f2) == ((rd_T47 l1 x5_1).f2)) = true := beq_iff_eq.mpr c15
                      have c15b1 : (((rd_T47 l0 x5_1).f2) != ((rd_T47 l1 x5_1).f2)) = false := bne_eq_false_iff_eq.mpr c15
                      clear c15
                      by_cases c16 : ((rd_T47 l0 x5_1).f4) = ((rd_T47 l1 x5_1).f4)
                      · rw [if_pos c16] at H
                        have c16b0 : (((rd_T47 l0 x5_1).f4) == ((rd_T47 l1 x5_1).f4)) = true := beq_iff_eq.mpr c16
                        have c16b1 : (((rd_T47 l0 x5_1).f4) != ((rd_T47 l1 x5_1).f4)) = false := bne_eq_false_iff_eq.mpr c16
                        clear c16
                        by_cases c17 : ((rd_T47 l0 x5_1).f5) = ((rd_T47 l1 x5_1).f5)
                        · rw [if_pos c17] at H
                          have c17b0 : (((rd_T47 l0 x5_1).f5) == ((rd_T47 l1 x5_1).f5)) = true := beq_iff_eq.mpr c17
                          have c17b1 : (((rd_T47 l0 x5_1).f5) != ((rd_T47 l1 x5_1).f5)) = false := bne_eq_false_iff_eq.mpr c17
                          clear c17
                          have H' := Aside0.mk H
                          clear H
                          have hnb18 := NB260_262.out
                          have hnc18 := NB262_260.out
                          have hcz19_0 : w10.cell? ⟨gb260, 0, none⟩ = some (.int .i64 ((rd_T47 l0 x5_1).f0)) := (blk_cell BK260.out 0).trans rfl
                          have hcz19_1 : w10.cell? ⟨gb260, 1, none⟩ = some (.int .i64 ((rd_T47 l0 x5_1).f1)) := (blk_cell BK260.out 1).trans rfl
                          have hcz19_2 : w10.cell? ⟨gb260, 2, none⟩ = some (.int .i64 ((rd_T47 l0 x5_1).f2)) := (blk_cell BK260.out 2).trans rfl
                          have hcz19_3 : w10.cell? ⟨gb260, 3, none⟩ = some (.slice A259_3 ((rd_T47 l0 x5_1).f3).length c259_3) := (blk_cell BK260.out 3).trans rfl
                          have hcz19_4 : w10.cell? ⟨gb260, 4, none⟩ = some (.int .i64 ((rd_T47 l0 x5_1).f4)) := (blk_cell BK260.out 4).trans rfl
                          have hcz19_5 : w10.cell? ⟨gb260, 5, none⟩ = some (.int .i64 ((rd_T47 l0 x5_1).f5)) := (blk_cell BK260.out 5).trans rfl
                          have hcz19_6 : w10.cell? ⟨gb260, 6, none⟩ = some (.int .i64 ((rd_T47 l0 x5_1).f6)) := (blk_cell BK260.out 6).trans rfl
                          have hcz19_7 : w10.cell? ⟨gb260, 7, none⟩ = some (.slice A259_7 ((rd_T47 l0 x5_1).f7).length c259_7) := (blk_cell BK260.out 7).trans rfl
                          have hfz19_0 := blk_frozen BK260.out 0
                          have hfz19_1 := blk_frozen BK260.out 1
                          have hfz19_2 := blk_frozen BK260.out 2
                          have hfz19_3 := blk_frozen BK260.out 3
                          have hfz19_4 := blk_frozen BK260.out 4
                          have hfz19_5 := blk_frozen BK260.out 5
                          have hfz19_6 := blk_frozen BK260.out 6
                          have hfz19_7 := blk_frozen BK260.out 7
                          have hcz20_0 : w10.cell? ⟨gb262, 0, none⟩ = some (.int .i64 0) := (blk_cell BK262.out 0).trans rfl
                          have hcz20_1 : w10.cell? ⟨gb262, 1, none⟩ = some (.int .i64 0) := (blk_cell BK262.out 1).trans rfl
                          have hcz20_2 : w10.cell? ⟨gb262, 2, none⟩ = some (.int .i64 0) := (blk_cell BK262.out 2).trans rfl
                          have hcz20_3 : w10.cell? ⟨gb262, 3, none⟩ = some (.slice none 0 0) := (blk_cell BK262.out 3).trans rfl
                          have hcz20_4 : w10.cell? ⟨gb262, 4, none⟩ = some (.int .i64 0) := (blk_cell BK262.out 4).trans rfl
                          have hcz20_5 : w10.cell? ⟨gb262, 5, none⟩ = some (.int .i64 0) := (blk_cell BK262.out 5).trans rfl
                          have hcz20_6 : w10.cell? ⟨gb262, 6, none⟩ = some (.int .i64 0) := (blk_cell BK262.out 6).trans rfl
                          have hcz20_7 : w10.cell? ⟨gb262, 7, none⟩ = some (.slice none 0 0) := (blk_cell BK262.out 7).trans rfl
                          have hfz20_0 := blk_frozen BK262.out 0
                          have hfz20_1 := blk_frozen BK262.out 1
                          have hfz20_2 := blk_frozen BK262.out 2
                          have hfz20_3 := blk_frozen BK262.out 3
                          have hfz20_4 := blk_frozen BK262.out 4
                          have hfz20_5 := blk_frozen BK262.out 5
                          have hfz20_6 := blk_frozen BK262.out 6
                          have hfz20_7 := blk_frozen BK262.out 7
                          go_wp2
                          go_meet
                          case rel => exact ⟨_, ((((rd_T47 l0 x5_1).f6) != ((rd_T47 l1 x5_1).f6))), (by first | rfl | (simp; done) | (simp [*]; done)), H', ⟨by have := HK1.out; first | omega | exact Nat.le_refl _⟩, ⟨by (with_reducible repeat (first | refine blk_drewN ?_ _ | refine blk_drew ?_ | refine blk_alloc ?_ _)); refine blk_far ?_ NB260_262.out _; (with_reducible repeat (first | refine blk_drewN ?_ _ | refine blk_drew ?_ | refine blk_alloc ?_ _)); refine blk_far ?_ NB260_262.out _; (with_reducible repeat (first | refine blk_drewN ?_ _ | refine blk_drew ?_ | refine blk_alloc ?_ _)); refine blk_far ?_ NB260_262.out _; (with_reducible repeat (first | refine blk_drewN ?_ _ | refine blk_drew ?_ | refine blk_alloc ?_ _)); refine blk_far ?_ NB260_262.out _; (with_reducible repeat (first | refine blk_drewN ?_ _ | refine blk_drew ?_ | refine blk_alloc ?_ _)); refine blk_far ?_ NB260_262.out _; (with_reducible repeat (first | refine blk_drewN ?_ _ | refine blk_drew ?_ | refine blk_alloc ?_ _)); refine blk_far ?_ NB260_262.out _; (with_reducible repeat (first | refine blk_drewN ?_ _ | refine blk_drew ?_ | refine blk_alloc ?_ _)); refine blk_far ?_ NB260_262.out _; (with_reducible repeat (first | refine blk_drewN ?_ _ | refine blk_drew ?_ | refine blk_alloc ?_ _)); refine blk_far ?_ NB260_262.out _; (with_reducible repeat (first | refine blk_drewN ?_ _ | refine blk_drew ?_ | refine blk_alloc ?_ _)); exact BK260.out⟩, ⟨by (with_reducible repeat (first | refine blk_drewN ?_ _ | refine blk_drew ?_ | refine blk_alloc ?_ _)); refine blk_put (cs := #[.int .i64 ((rd_T47 l1 x5_1).f0), .int .i64 ((rd_T47 l1 x5_1).f1), .int .i64 ((rd_T47 l1 x5_1).f2), .slice A261_3 ((rd_T47 l1 x5_1).f3).length c261_3, .int .i64 ((rd_T47 l1 x5_1).f4), .int .i64 ((rd_T47 l1 x5_1).f5), .int .i64 ((rd_T47 l1 x5_1).f6), .slice none 0 0]) ?_ 7 _ rfl; (with_reducible repeat (first | refine blk_drewN ?_ _ | refine blk_drew ?_ | refine blk_alloc ?_ _)); refine blk_put (cs := #[.int .i64 ((rd_T47 l1 x5_1).f0), .int .i64 ((rd_T47 l1 x5_1).f1), .int .i64 ((rd_T47 l1 x5_1).f2), .slice A261_3 ((rd_T47 l1 x5_1).f3).length c261_3, .int .i64 ((rd_T47 l1 x5_1).f4), .int .i64 ((rd_T47 l1 x5_1).f5), .int .i64 0, .slice none 0 0]) ?_ 6 _ rfl; (with_reducible repeat (first | refine blk_drewN ?_ _ | refine blk_drew ?_ | refine blk_alloc ?_ _)); refine blk_put (cs := #[.int .i64 ((rd_T47 l1 x5_1).f0), .int .i64 ((rd_T47 l1 x5_1).f1), .int .i64 ((rd_T47 l1 x5_1).f2), .slice A261_3 ((rd_T47 l1 x5_1).f3).length c261_3, .int .i64 ((rd_T47 l1 x5_1).f4), .int .i64 0, .int .i64 0, .slice none 0 0]) ?_ 5 _ rfl; (with_reducible repeat (first | refine blk_drewN ?_ _ | refine blk_drew ?_ | refine blk_alloc ?_ _)); refine blk_put (cs := #[.int .i64 ((rd_T47 l1 x5_1).f0), .int .i64 ((rd_T47 l1 x5_1).f1), .int .i64 ((rd_T47 l1 x5_1).f2), .slice A261_3 ((rd_T47 l1 x5_1).f3).length c261_3, .int .i64 0, .int .i64 0, .int .i64 0, .slice none 0 0]) ?_ 4 _ rfl; (with_reducible repeat (first | refine blk_drewN ?_ _ | refine blk_drew ?_ | refine blk_alloc ?_ _)); refine blk_put (cs := #[.int .i64 ((rd_T47 l1 x5_1).f0), .int .i64 ((rd_T47 l1 x5_1).f1), .int .i64 ((rd_T47 l1 x5_1).f2), .slice none 0 0, .int .i64 0, .int .i64 0, .int .i64 0, .slice none 0 0]) ?_ 3 _ rfl; (with_reducible repeat (first | refine blk_drewN ?_ _ | refine blk_drew ?_ | refine blk_alloc ?_ _)); refine blk_put (cs := #[.int .i64 ((rd_T47 l1 x5_1).f0), .int .i64 ((rd_T47 l1 x5_1).f1), .int .i64 0, .slice none 0 0, .int .i64 0, .int .i64 0, .int .i64 0, .slice none 0 0]) ?_ 2 _ rfl; (with_reducible repeat (first | refine blk_drewN ?_ _ | refine blk_drew ?_ | refine blk_alloc ?_ _)); refine blk_put (cs := #[.int .i64 ((rd_T47 l1 x5_1).f0), .int .i64 0, .int .i64 0, .slice none 0 0, .int .i64 0, .int .i64 0, .int .i64 0, .slice none 0 0]) ?_ 1 _ rfl; (with_reducible repeat (first | refine blk_drewN ?_ _ | refine blk_drew ?_ | refine blk_alloc ?_ _)); refine blk_put (cs := #[.int .i64 0, .int .i64 0, .int .i64 0, .slice none 0 0, .int .i64 0, .int .i64 0, .int .i64 0, .slice none 0 0]) ?_ 0 _ rfl; (with_reducible repeat (first | refine blk_drewN ?_ _ | refine blk_drew ?_ | refine blk_alloc ?_ _)); exact BK262.out⟩, ⟨by repeat (first | (with_reducible first | exact HB.out | apply below_alloc | apply pw_below_drewN | apply below_drew1 | refine below_set ?_ GE260.out | refine below_set ?_ GE262.out) | exact HB.out)⟩⟩
                        · rw [if_neg c17] at H
                          have c17b0 : (((rd_T47 l0 x5_1).f5) == ((rd_T47 l1 x5_1).f5)) = false := beq_eq_false_iff_ne.mpr c17
                          have c17b1 : (((rd_T47 l0 x5_1).f5) != ((rd_T47 l1 x5_1).f5)) = true := bne_iff_ne.mpr c17
                          have H' := Aside0.mk H
                          clear H
                          have hnb21 := NB260_262.out
                          have hnc21 := NB262_260.out
                          have hcz22_0 : w10.cell? ⟨gb260, 0, none⟩ = some (.int .i64 ((rd_T47 l0 x5_1).f0)) := (blk_cell BK260.out 0).trans rfl
                          have hcz22_1 : w10.cell? ⟨gb260, 1, none⟩ = some (.int .i64 ((rd_T47 l0 x5_1).f1)) := (blk_cell BK260.out 1).trans rfl
                          have hcz22_2 : w10.cell? ⟨gb260, 2, none⟩ = some (.int .i64 ((rd_T47 l0 x5_1).f2)) := (blk_cell BK260.out 2).trans rfl
                          have hcz22_3 : w10.cell? ⟨gb260, 3, none⟩ = some (.slice A259_3 ((rd_T47 l0 x5_1).f3).length c259_3) := (blk_cell BK260.out 3).trans rfl
                          have hcz22_4 : w10.cell? ⟨gb260, 4, none⟩ = some (.int .i64 ((rd_T47 l0 x5_1).f4)) := (blk_cell BK260.out 4).trans rfl
                          have hcz22_5 : w10.cell? ⟨gb260, 5, none⟩ = some (.int .i64 ((rd_T47 l0 x5_1).f5)) := (blk_cell BK260.out 5).trans rfl
                          have hcz22_6 : w10.cell? ⟨gb260, 6, none⟩ = some (.int .i64 ((rd_T47 l0 x5_1).f6)) := (blk_cell BK260.out 6).trans rfl
                          have hcz22_7 : w10.cell? ⟨gb260, 7, none⟩ = some (.slice A259_7 ((rd_T47 l0 x5_1).f7).length c259_7) := (blk_cell BK260.out 7).trans rfl
                          have hfz22_0 := blk_frozen BK260.out 0
                          have hfz22_1 := blk_frozen BK260.out 1
                          have hfz22_2 := blk_frozen BK260.out 2
                          have hfz22_3 := blk_frozen BK260.out 3
                          have hfz22_4 := blk_frozen BK260.out 4
                          have hfz22_5 := blk_frozen BK260.out 5
                          have hfz22_6 := blk_frozen BK260.out 6
                          have hfz22_7 := blk_frozen BK260.out 7
                          have hcz23_0 : w10.cell? ⟨gb262, 0, none⟩ = some (.int .i64 0) := (blk_cell BK262.out 0).trans rfl
                          have hcz23_1 : w10.cell? ⟨gb262, 1, none⟩ = some (.int .i64 0) := (blk_cell BK262.out 1).trans rfl
                          have hcz23_2 : w10.cell? ⟨gb262, 2, none⟩ = some (.int .i64 0) := (blk_cell BK262.out 2).trans rfl
                          have hcz23_3 : w10.cell? ⟨gb262, 3, none⟩ = some (.slice none 0 0) := (blk_cell BK262.out 3).trans rfl
                          have hcz23_4 : w10.cell? ⟨gb262, 4, none⟩ = some (.int .i64 0) := (blk_cell BK262.out 4).trans rfl
                          have hcz23_5 : w10.cell? ⟨gb262, 5, none⟩ = some (.int .i64 0) := (blk_cell BK262.out 5).trans rfl
                          have hcz23_6 : w10.cell? ⟨gb262, 6, none⟩ = some (.int .i64 0) := (blk_cell BK262.out 6).trans rfl
                          have hcz23_7 : w10.cell? ⟨gb262, 7, none⟩ = some (.slice none 0 0) := (blk_cell BK262.out 7).trans rfl
                          have hfz23_0 := blk_frozen BK262.out 0
                          have hfz23_1 := blk_frozen BK262.out 1
                          have hfz23_2 := blk_frozen BK262.out 2
                          have hfz23_3 := blk_frozen BK262.out 3
                          have hfz23_4 := blk_frozen BK262.out 4
                          have hfz23_5 := blk_frozen BK262.out 5
                          have hfz23_6 := blk_frozen BK262.out 6
                          have hfz23_7 := blk_frozen BK262.out 7
                          go_wp2
                          go_meet
                          case rel => exact ⟨_, (true), (by first | rfl | (simp; done) | (simp [*]; done)), H', ⟨by have := HK1.out; first | omega | exact Nat.le_refl _⟩, ⟨by (with_reducible repeat (first | refine blk_drewN ?_ _ | refine blk_drew ?_ | refine blk_alloc ?_ _)); refine blk_far ?_ NB260_262.out _; (with_reducible repeat (first | refine blk_drewN ?_ _ | refine blk_drew ?_ | refine blk_alloc ?_ _)); refine blk_far ?_ NB260_262.out _; (with_reducible repeat (first | refine blk_drewN ?_ _ | refine blk_drew ?_ | refine blk_alloc ?_ _)); refine blk_far ?_ NB260_262.out _; (with_reducible repeat (first | refine blk_drewN ?_ _ | refine blk_drew ?_ | refine blk_alloc ?_ _)); refine blk_far ?_ NB260_262.out _; (with_reducible repeat (first | refine blk_drewN ?_ _ | refine blk_drew ?_ | refine blk_alloc ?_ _)); refine blk_far ?_ NB260_262.out _; (with_reducible repeat (first | refine blk_drewN ?_ _ | refine blk_drew ?_ | refine blk_alloc ?_ _)); refine blk_far ?_ NB260_262.out _; (with_reducible repeat (first | refine blk_drewN ?_ _ | refine blk_drew ?_ | refine blk_alloc ?_ _)); refine blk_far ?_ NB260_262.out _; (with_reducible repeat (first | refine blk_drewN ?_ _ | refine blk_drew ?_ | refine blk_alloc ?_ _)); refine blk_far ?_ NB260_262.out _; (with_reducible repeat (first | refine blk_drewN ?_ _ | refine blk_drew ?_ | refine blk_alloc ?_ _)); exact BK260.out⟩, ⟨by (with_reducible repeat (first | refine blk_drewN ?_ _ | refine blk_drew ?_ | refine blk_alloc ?_ _)); refine blk_put (cs := #[.int .i64 ((rd_T47 l1 x5_1).f0), .int .i64 ((rd_T47 l1 x5_1).f1), .int .i64 ((rd_T47 l1 x5_1).f2), .slice A261_3 ((rd_T47 l1 x5_1).f3).length c261_3, .int .i64 ((rd_T47 l1 x5_1).f4), .int .i64 ((rd_T47 l1 x5_1).f5), .int .i64 ((rd_T47 l1 x5_1).f6), .slice none 0 0]) ?_ 7 _ rfl; (with_reducible repeat (first | refine blk_drewN ?_ _ | refine blk_drew ?_ | refine blk_alloc ?_ _)); refine blk_put (cs := #[.int .i64 ((rd_T47 l1 x5_1).f0), .int .i64 ((rd_T47 l1 x5_1).f1), .int .i64 ((rd_T47 l1 x5_1).f2), .slice A261_3 ((rd_T47 l1 x5_1).f3).length c261_3, .int .i64 ((rd_T47 l1 x5_1).f4), .int .i64 ((rd_T47 l1 x5_1).f5), .int .i64 0, .slice none 0 0]) ?_ 6 _ rfl; (with_reducible repeat (first | refine blk_drewN ?_ _ | refine blk_drew ?_ | refine blk_alloc ?_ _)); refine blk_put (cs := #[.int .i64 ((rd_T47 l1 x5_1).f0), .int .i64 ((rd_T47 l1 x5_1).f1), .int .i64 ((rd_T47 l1 x5_1).f2), .slice A261_3 ((rd_T47 l1 x5_1).f3).length c261_3, .int .i64 ((rd_T47 l1 x5_1).f4), .int .i64 0, .int .i64 0, .slice none 0 0]) ?_ 5 _ rfl; (with_reducible repeat (first | refine blk_drewN ?_ _ | refine blk_drew ?_ | refine blk_alloc ?_ _)); refine blk_put (cs := #[.int .i64 ((rd_T47 l1 x5_1).f0), .int .i64 ((rd_T47 l1 x5_1).f1), .int .i64 ((rd_T47 l1 x5_1).f2), .slice A261_3 ((rd_T47 l1 x5_1).f3).length c261_3, .int .i64 0, .int .i64 0, .int .i64 0, .slice none 0 0]) ?_ 4 _ rfl; (with_reducible repeat (first | refine blk_drewN ?_ _ | refine blk_drew ?_ | refine blk_alloc ?_ _)); refine blk_put (cs := #[.int .i64 ((rd_T47 l1 x5_1).f0), .int .i64 ((rd_T47 l1 x5_1).f1), .int .i64 ((rd_T47 l1 x5_1).f2), .slice none 0 0, .int .i64 0, .int .i64 0, .int .i64 0, .slice none 0 0]) ?_ 3 _ rfl; (with_reducible repeat (first | refine blk_drewN ?_ _ | refine blk_drew ?_ | refine blk_alloc ?_ _)); refine blk_put (cs := #[.int .i64 ((rd_T47 l1 x5_1).f0), .int .i64 ((rd_T47 l1 x5_1).f1), .int .i64 0, .slice none 0 0, .int .i64 0, .int .i64 0, .int .i64 0, .slice none 0 0]) ?_ 2 _ rfl; (with_reducible repeat (first | refine blk_drewN ?_ _ | refine blk_drew ?_ | refine blk_alloc ?_ _)); refine blk_put (cs := #[.int .i64 ((rd_T47 l1 x5_1).f0), .int .i64 0, .int .i64 0, .slice none 0 0, .int .i64 0, .int .i64 0, .int .i64 0, .slice none 0 0]) ?_ 1 _ rfl; (with_reducible repeat (first | refine blk_drewN ?_ _ | refine blk_drew ?_ | refine blk_alloc ?_ _)); refine blk_put (cs := #[.int .i64 0, .int .i64 0, .int .i64 0, .slice none 0 0, .int .i64 0, .int .i64 0, .int .i64 0, .slice none 0 0]) ?_ 0 _ rfl; (with_reducible repeat (first | refine blk_drewN ?_ _ | refine blk_drew ?_ | refine blk_alloc ?_ _)); exact BK262.out⟩, ⟨by repeat (first | (with_reducible first | exact HB.out | apply below_alloc | apply pw_below_drewN | apply below_drew1 | refine below_set ?_ GE260.out | refine below_set ?_ GE262.out) | exact HB.out)⟩⟩
                      · rw [if_neg c16] at H
                        have c16b0 : (((rd_T47 l0 x5_1).f4) == ((rd_T47 l1 x5_1).f4)) = false := beq_eq_false_iff_ne.mpr c16
                        have c16b1 : (((rd_T47 l0 x5_1).f4) != ((rd_T47 l1 x5_1).f4)) = true := bne_iff_ne.mpr c16
                        have H' := Aside0.mk H
                        clear H
                        have hnb24 := NB260_262.out
                        have hnc24 := NB262_260.out
                        have hcz25_0 : w10.cell? ⟨gb260, 0, none⟩ = some (.int .i64 ((rd_T47 l0 x5_1).f0)) := (blk_cell BK260.out 0).trans rfl
                        have hcz25_1 : w10.cell? ⟨gb260, 1, none⟩ = some (.int .i64 ((rd_T47 l0 x5_1).f1)) := (blk_cell BK260.out 1).trans rfl
                        have hcz25_2 : w10.cell? ⟨gb260, 2, none⟩ = some (.int .i64 ((rd_T47 l0 x5_1).f2)) := (blk_cell BK260.out 2).trans rfl
                        have hcz25_3 : w10.cell? ⟨gb260, 3, none⟩ = some (.slice A259_3 ((rd_T47 l0 x5_1).f3).length c259_3) := (blk_cell BK260.out 3).trans rfl
                        have hcz25_4 : w10.cell? ⟨gb260, 4, none⟩ = some (.int .i64 ((rd_T47 l0 x5_1).f4)) := (blk_cell BK260.out 4).trans rfl
                        have hcz25_5 : w10.cell? ⟨gb260, 5, none⟩ = some (.int .i64 ((rd_T47 l0 x5_1).f5)) := (blk_cell BK260.out 5).trans rfl
                        have hcz25_6 : w10.cell? ⟨gb260, 6, none⟩ = some (.int .i64 ((rd_T47 l0 x5_1).f6)) := (blk_cell BK260.out 6).trans rfl
                        have hcz25_7 : w10.cell? ⟨gb260, 7, none⟩ = some (.slice A259_7 ((rd_T47 l0 x5_1).f7).length c259_7) := (blk_cell BK260.out 7).trans rfl
                        have hfz25_0 := blk_frozen BK260.out 0
                        have hfz25_1 := blk_frozen BK260.out 1
                        have hfz25_2 := blk_frozen BK260.out 2
                        have hfz25_3 := blk_frozen BK260.out 3
                        have hfz25_4 := blk_frozen BK260.out 4
                        have hfz25_5 := blk_frozen BK260.out 5
                        have hfz25_6 := blk_frozen BK260.out 6
                        have hfz25_7 := blk_frozen BK260.out 7
                        have hcz26_0 : w10.cell? ⟨gb262, 0, none⟩ = some (.int .i64 0) := (blk_cell BK262.out 0).trans rfl
                        have hcz26_1 : w10.cell? ⟨gb262, 1, none⟩ = some (.int .i64 0) := (blk_cell BK262.out 1).trans rfl
                        have hcz26_2 : w10.cell? ⟨gb262, 2, none⟩ = some (.int .i64 0) := (blk_cell BK262.out 2).trans rfl
                        have hcz26_3 : w10.cell? ⟨gb262, 3, none⟩ = some (.slice none 0 0) := (blk_cell BK262.out 3).trans rfl
                        have hcz26_4 : w10.cell? ⟨gb262, 4, none⟩ = some (.int .i64 0) := (blk_cell BK262.out 4).trans rfl
                        have hcz26_5 : w10.cell? ⟨gb262, 5, none⟩ = some (.int .i64 0) := (blk_cell BK262.out 5).trans rfl
                        have hcz26_6 : w10.cell? ⟨gb262, 6, none⟩ = some (.int .i64 0) := (blk_cell BK262.out 6).trans rfl
                        have hcz26_7 : w10.cell? ⟨gb262, 7, none⟩ = some (.slice none 0 0) := (blk_cell BK262.out 7).trans rfl
                        have hfz26_0 := blk_frozen BK262.out 0
                        have hfz26_1 := blk_frozen BK262.out 1
                        have hfz26_2 := blk_frozen BK262.out 2
                        have hfz26_3 := blk_frozen BK262.out 3
                        have hfz26_4 := blk_frozen BK262.out 4
                        have hfz26_5 := blk_frozen BK262.out 5
                        have hfz26_6 := blk_frozen BK262.out 6
                        have hfz26_7 := blk_frozen BK262.out 7
                        go_wp2
                        go_meet
                        case rel => exact ⟨_, (true), (by first | rfl | (simp; done) | (simp [*]; done)), H', ⟨by have := HK1.out; first | omega | exact Nat.le_refl _⟩, ⟨by (with_reducible repeat (first | refine blk_drewN ?_ _ | refine blk_drew ?_ | refine blk_alloc ?_ _)); refine blk_far ?_ NB260_262.out _; (with_reducible repeat (first | refine blk_drewN ?_ _ | refine blk_drew ?_ | refine blk_alloc ?_ _)); refine blk_far ?_ NB260_262.out _; (with_reducible repeat (first | refine blk_drewN ?_ _ | refine blk_drew ?_ | refine blk_alloc ?_ _)); refine blk_far ?_ NB260_262.out _; (with_reducible repeat (first | refine blk_drewN ?_ _ | refine blk_drew ?_ | refine blk_alloc ?_ _)); refine blk_far ?_ NB260_262.out _; (with_reducible repeat (first | refine blk_drewN ?_ _ | refine blk_drew ?_ | refine blk_alloc ?_ _)); refine blk_far ?_ NB260_262.out _; (with_reducible repeat (first | refine blk_drewN ?_ _ | refine blk_drew ?_ | refine blk_alloc ?_ _)); refine blk_far ?_ NB260_262.out _; (with_reducible repeat (first | refine blk_drewN ?_ _ | refine blk_drew ?_ | refine blk_alloc ?_ _)); refine blk_far ?_ NB260_262.out _; (with_reducible repeat (first | refine blk_drewN ?_ _ | refine blk_drew ?_ | refine blk_alloc ?_ _)); refine blk_far ?_ NB260_262.out _; (with_reducible repeat (first | refine blk_drewN ?_ _ | refine blk_drew ?_ | refine blk_alloc ?_ _)); exact BK260.out⟩, ⟨by (with_reducible repeat (first | refine blk_drewN ?_ _ | refine blk_drew ?_ | refine blk_alloc ?_ _)); refine blk_put (cs := #[.int .i64 ((rd_T47 l1 x5_1).f0), .int .i64 ((rd_T47 l1 x5_1).f1), .int .i64 ((rd_T47 l1 x5_1).f2), .slice A261_3 ((rd_T47 l1 x5_1).f3).length c261_3, .int .i64 ((rd_T47 l1 x5_1).f4), .int .i64 ((rd_T47 l1 x5_1).f5), .int .i64 ((rd_T47 l1 x5_1).f6), .slice none 0 0]) ?_ 7 _ rfl; (with_reducible repeat (first | refine blk_drewN ?_ _ | refine blk_drew ?_ | refine blk_alloc ?_ _)); refine blk_put (cs := #[.int .i64 ((rd_T47 l1 x5_1).f0), .int .i64 ((rd_T47 l1 x5_1).f1), .int .i64 ((rd_T47 l1 x5_1).f2), .slice A261_3 ((rd_T47 l1 x5_1).f3).length c261_3, .int .i64 ((rd_T47 l1 x5_1).f4), .int .i64 ((rd_T47 l1 x5_1).f5), .int .i64 0, .slice none 0 0]) ?_ 6 _ rfl; (with_reducible repeat (first | refine blk_drewN ?_ _ | refine blk_drew ?_ | refine blk_alloc ?_ _)); refine blk_put (cs := #[.int .i64 ((rd_T47 l1 x5_1).f0), .int .i64 ((rd_T47 l1 x5_1).f1), .int .i64 ((rd_T47 l1 x5_1).f2), .slice A261_3 ((rd_T47 l1 x5_1).f3).length c261_3, .int .i64 ((rd_T47 l1 x5_1).f4), .int .i64 0, .int .i64 0, .slice none 0 0]) ?_ 5 _ rfl; (with_reducible repeat (first | refine blk_drewN ?_ _ | refine blk_drew ?_ | refine blk_alloc ?_ _)); refine blk_put (cs := #[.int .i64 ((rd_T47 l1 x5_1).f0), .int .i64 ((rd_T47 l1 x5_1).f1), .int .i64 ((rd_T47 l1 x5_1).f2), .slice A261_3 ((rd_T47 l1 x5_1).f3).length c261_3, .int .i64 0, .int .i64 0, .int .i64 0, .slice none 0 0]) ?_ 4 _ rfl; (with_reducible repeat (first | refine blk_drewN ?_ _ | refine blk_drew ?_ | refine blk_alloc ?_ _)); refine blk_put (cs := #[.int .i64 ((rd_T47 l1 x5_1).f0), .int .i64 ((rd_T47 l1 x5_1).f1), .int .i64 ((rd_T47 l1 x5_1).f2), .slice none 0 0, .int .i64 0, .int .i64 0, .int .i64 0, .slice none 0 0]) ?_ 3 _ rfl; (with_reducible repeat (first | refine blk_drewN ?_ _ | refine blk_drew ?_ | refine blk_alloc ?_ _)); refine blk_put (cs := #[.int .i64 ((rd_T47 l1 x5_1).f0), .int .i64 ((rd_T47 l1 x5_1).f1), .int .i64 0, .slice none 0 0, .int .i64 0, .int .i64 0, .int .i64 0, .slice none 0 0]) ?_ 2 _ rfl; (with_reducible repeat (first | refine blk_drewN ?_ _ | refine blk_drew ?_ | refine blk_alloc ?_ _)); refine blk_put (cs := #[.int .i64 ((rd_T47 l1 x5_1).f0), .int .i64 0, .int .i64 0, .slice none 0 0, .int .i64 0, .int .i64 0, .int .i64 0, .slice none 0 0]) ?_ 1 _ rfl; (with_reducible repeat (first | refine blk_drewN ?_ _ | refine blk_drew ?_ | refine blk_alloc ?_ _)); refine blk_put (cs := #[.int .i64 0, .int .i64 0, .int .i64 0, .slice none 0 0, .int .i64 0, .int .i64 0, .int .i64 0, .slice none 0 0]) ?_ 0 _ rfl; (with_reducible repeat (first | refine blk_drewN ?_ _ | refine blk_drew ?_ | refine blk_alloc ?_ _)); exact BK262.out⟩, ⟨by repeat (first | (with_reducible first | exact HB.out | apply below_alloc | apply pw_below_drewN | apply below_drew1 | refine below_set ?_ GE260.out | refine below_set ?_ GE262.out) | exact HB.out)⟩⟩
                    · rw [if_neg c15] at H
                      have c15b0 : (((rd_T47 l0 x5_1).f2) == ((rd_T47 l1 x5_1).f2)) = false := beq_eq_false_iff_ne.mpr c15
                      have c15b1 : (((rd_T47 l0 x5_1).f2) != ((rd_T47 l1 x5_1).f2)) = true := bne_iff_ne.mpr c15
                      have H' := Aside0.mk H
                      clear H
                      have hnb27 := NB260_262.out
                      have hnc27 := NB262_260.out
                      have hcz28_0 : w10.cell? ⟨gb260, 0, none⟩ = some (.int .i64 ((rd_T47 l0 x5_1).f0)) := (blk_cell BK260.out 0).trans rfl
                      have hcz28_1 : w10.cell? ⟨gb260, 1, none⟩ = some (.int .i64 ((rd_T47 l0 x5_1).f1)) := (blk_cell BK260.out 1).trans rfl
                      have hcz28_2 : w10.cell? ⟨gb260, 2, none⟩ = some (.int .i64 ((rd_T47 l0 x5_1).f2)) := (blk_cell BK260.out 2).trans rfl
                      have hcz28_3 : w10.cell? ⟨gb260, 3, none⟩ = some (.slice A259_3 ((rd_T47 l0 x5_1).f3).length c259_3) := (blk_cell BK260.out 3).trans rfl
                      have hcz28_4 : w10.cell? ⟨gb260, 4, none⟩ = some (.int .i64 ((rd_T47 l0 x5_1).f4)) := (blk_cell BK260.out 4).trans rfl
                      have hcz28_5 : w10.cell? ⟨gb260, 5, none⟩ = some (.int .i64 ((rd_T47 l0 x5_1).f5)) := (blk_cell BK260.out 5).trans rfl
                      have hcz28_6 : w10.cell? ⟨gb260, 6, none⟩ = some (.int .i64 ((rd_T47 l0 x5_1).f6)) := (blk_cell BK260.out 6).trans rfl
                      have hcz28_7 : w10.cell? ⟨gb260, 7, none⟩ = some (.slice A259_7 ((rd_T47 l0 x5_1).f7).length c259_7) := (blk_cell BK260.out 7).trans rfl
                      have hfz28_0 := blk_frozen BK260.out 0
                      have hfz28_1 := blk_frozen BK260.out 1
                      have hfz28_2 := blk_frozen BK260.out 2
                      have hfz28_3 := blk_frozen BK260.out 3
                      have hfz28_4 := blk_frozen BK260.out 4
                      have hfz28_5 := blk_frozen BK260.out 5
                      have hfz28_6 := blk_frozen BK260.out 6
                      have hfz28_7 := blk_frozen BK260.out 7
                      have hcz29_0 : w10.cell? ⟨gb262, 0, none⟩ = some (.int .i64 0) := (blk_cell BK262.out 0).trans rfl
                      have hcz29_1 : w10.cell? ⟨gb262, 1, none⟩ = some (.int .i64 0) := (blk_cell BK262.out 1).trans rfl
                      have hcz29_2 : w10.cell? ⟨gb262, 2, none⟩ = some (.int .i64 0) := (blk_cell BK262.out 2).trans rfl
                      have hcz29_3 : w10.cell? ⟨gb262, 3, none⟩ = some (.slice none 0 0) := (blk_cell BK262.out 3).trans rfl
                      have hcz29_4 : w10.cell? ⟨gb262, 4, none⟩ = some (.int .i64 0) := (blk_cell BK262.out 4).trans rfl
                      have hcz29_5 : w10.cell? ⟨gb262, 5, none⟩ = some (.int .i64 0) := (blk_cell BK262.out 5).trans rfl
                      have hcz29_6 : w10.cell? ⟨gb262, 6, none⟩ = some (.int .i64 0) := (blk_cell BK262.out 6).trans rfl
                      have hcz29_7 : w10.cell? ⟨gb262, 7, none⟩ = some (.slice none 0 0) := (blk_cell BK262.out 7).trans rfl
                      have hfz29_0 := blk_frozen BK262.out 0
                      have hfz29_1 := blk_frozen BK262.out 1
                      have hfz29_2 := blk_frozen BK262.out 2
                      have hfz29_3 := blk_frozen BK262.out 3
                      have hfz29_4 := blk_frozen BK262.out 4
                      have hfz29_5 := blk_frozen BK262.out 5
                      have hfz29_6 := blk_frozen BK262.out 6
                      have hfz29_7 := blk_frozen BK262.out 7
                      go_wp2
                      go_meet
                      case rel => exact ⟨_, (true), (by first | rfl | (simp; done) | (simp [*]; done)), H', ⟨by have := HK1.out; first | omega | exact Nat.le_refl _⟩, ⟨by (with_reducible repeat (first | refine blk_drewN ?_ _ | refine blk_drew ?_ | refine blk_alloc ?_ _)); refine blk_far ?_ NB260_262.out _; (with_reducible repeat (first | refine blk_drewN ?_ _ | refine blk_drew ?_ | refine blk_alloc ?_ _)); refine blk_far ?_ NB260_262.out _; (with_reducible repeat (first | refine blk_drewN ?_ _ | refine blk_drew ?_ | refine blk_alloc ?_ _)); refine blk_far ?_ NB260_262.out _; (with_reducible repeat (first | refine blk_drewN ?_ _ | refine blk_drew ?_ | refine blk_alloc ?_ _)); refine blk_far ?_ NB260_262.out _; (with_reducible repeat (first | refine blk_drewN ?_ _ | refine blk_drew ?_ | refine blk_alloc ?_ _)); refine blk_far ?_ NB260_262.out _; (with_reducible repeat (first | refine blk_drewN ?_ _ | refine blk_drew ?_ | refine blk_alloc ?_ _)); refine blk_far ?_ NB260_262.out _; (with_reducible repeat (first | refine blk_drewN ?_ _ | refine blk_drew ?_ | refine blk_alloc ?_ _)); refine blk_far ?_ NB260_262.out _; (with_reducible repeat (first | refine blk_drewN ?_ _ | refine blk_drew ?_ | refine blk_alloc ?_ _)); refine blk_far ?_ NB260_262.out _; (with_reducible repeat (first | refine blk_drewN ?_ _ | refine blk_drew ?_ | refine blk_alloc ?_ _)); exact BK260.out⟩, ⟨by (with_reducible repeat (first | refine blk_drewN ?_ _ | refine blk_drew ?_ | refine blk_alloc ?_ _)); refine blk_put (cs := #[.int .i64 ((rd_T47 l1 x5_1).f0), .int .i64 ((rd_T47 l1 x5_1).f1), .int .i64 ((rd_T47 l1 x5_1).f2), .slice A261_3 ((rd_T47 l1 x5_1).f3).length c261_3, .int .i64 ((rd_T47 l1 x5_1).f4), .int .i64 ((rd_T47 l1 x5_1).f5), .int .i64 ((rd_T47 l1 x5_1).f6), .slice none 0 0]) ?_ 7 _ rfl; (with_reducible repeat (first | refine blk_drewN ?_ _ | refine blk_drew ?_ | refine blk_alloc ?_ _)); refine blk_put (cs := #[.int .i64 ((rd_T47 l1 x5_1).f0), .int .i64 ((rd_T47 l1 x5_1).f1), .int .i64 ((rd_T47 l1 x5_1).f2), .slice A261_3 ((rd_T47 l1 x5_1).f3).length c261_3, .int .i64 ((rd_T47 l1 x5_1).f4), .int .i64 ((rd_T47 l1 x5_1).f5), .int .i64 0, .slice none 0 0]) ?_ 6 _ rfl; (with_reducible repeat (first | refine blk_drewN ?_ _ | refine blk_drew ?_ | refine blk_alloc ?_ _)); refine blk_put (cs := #[.int .i64 ((rd_T47 l1 x5_1).f0), .int .i64 ((rd_T47 l1 x5_1).f1), .int .i64 ((rd_T47 l1 x5_1).f2), .slice A261_3 ((rd_T47 l1 x5_1).f3).length c261_3, .int .i64 ((rd_T47 l1 x5_1).f4), .int .i64 0, .int .i64 0, .slice none 0 0]) ?_ 5 _ rfl; (with_reducible repeat (first | refine blk_drewN ?_ _ | refine blk_drew ?_ | refine blk_alloc ?_ _)); refine blk_put (cs := #[.int .i64 ((rd_T47 l1 x5_1).f0), .int .i64 ((rd_T47 l1 x5_1).f1), .int .i64 ((rd_T47 l1 x5_1).f2), .slice A261_3 ((rd_T47 l1 x5_1).f3).length c261_3, .int .i64 0, .int .i64 0, .int .i64 0, .slice none 0 0]) ?_ 4 _ rfl; (with_reducible repeat (first | refine blk_drewN ?_ _ | refine blk_drew ?_ | refine blk_alloc ?_ _)); refine blk_put (cs := #[.int .i64 ((rd_T47 l1 x5_1).f0), .int .i64 ((rd_T47 l1 x5_1).f1), .int .i64 ((rd_T47 l1 x5_1).f2), .slice none 0 0, .int .i64 0, .int .i64 0, .int .i64 0, .slice none 0 0]) ?_ 3 _ rfl; (with_reducible repeat (first | refine blk_drewN ?_ _ | refine blk_drew ?_ | refine blk_alloc ?_ _)); refine blk_put (cs := #[.int .i64 ((rd_T47 l1 x5_1).f0), .int .i64 ((rd_T47 l1 x5_1).f1), .int .i64 0, .slice none 0 0, .int .i64 0, .int .i64 0, .int .i64 0, .slice none 0 0]) ?_ 2 _ rfl; (with_reducible repeat (first | refine blk_drewN ?_ _ | refine blk_drew ?_ | refine blk_alloc ?_ _)); refine blk_put (cs := #[.int .i64 ((rd_T47 l1 x5_1).f0), .int .i64 0, .int .i64 0, .slice none 0 0, .int .i64 0, .int .i64 0, .int .i64 0, .slice none 0 0]) ?_ 1 _ rfl; (with_reducible repeat (first | refine blk_drewN ?_ _ | refine blk_drew ?_ | refine blk_alloc ?_ _)); refine blk_put (cs := #[.int .i64 0, .int .i64 0, .int .i64 0, .slice none 0 0, .int .i64 0, .int .i64 0, .int .i64 0, .slice none 0 0]) ?_ 0 _ rfl; (with_reducible repeat (first | refine blk_drewN ?_ _ | refine blk_drew ?_ | refine blk_alloc ?_ _)); exact BK262.out⟩, ⟨by repeat (first | (with_reducible first | exact HB.out | apply below_alloc | apply pw_below_drewN | apply below_drew1 | refine below_set ?_ GE260.out | refine below_set ?_ GE262.out) | exact HB.out)⟩⟩
                  · rw [if_neg c14] at H
                    have c14b0 : (((rd_T47 l0 x5_1).f1) == ((rd_T47 l1 x5_1).f1)) = false := beq_eq_false_iff_ne.mpr c14
                    have c14b1 : (((rd_T47 l0 x5_1).f1) != ((rd_T47 l1 x5_1).f1)) = true := bne_iff_ne.mpr c14
                    have H' := Aside0.mk H
                    clear H
                    have hnb30 := NB260_262.out
                    have hnc30 := NB262_260.out
                    have hcz31_0 : w10.cell? ⟨gb260, 0, none⟩ = some (.int .i64 ((rd_T47 l0 x5_1).f0)) := (blk_cell BK260.out 0).trans rfl
                    have hcz31_1 : w10.cell? ⟨gb260, 1, none⟩ = some (.int .i64 ((rd_T47 l0 x5_1).f1)) := (blk_cell BK260.out 1).trans rfl
                    have hcz31_2 : w10.cell? ⟨gb260, 2, none⟩ = some (.int .i64 ((rd_T47 l0 x5_1).f2)) := (blk_cell BK260.out 2).trans rfl
                    have hcz31_3 : w10.cell? ⟨gb260, 3, none⟩ = some (.slice A259_3 ((rd_T47 l0 x5_1).f3).length c259_3) := (blk_cell BK260.out 3).trans rfl
                    have hcz31_4 : w10.cell? ⟨gb260, 4, none⟩ = some (.int .i64 ((rd_T47 l0 x5_1).f4)) := (blk_cell BK260.out 4).trans rfl
                    have hcz31_5 : w10.cell? ⟨gb260, 5, none⟩ = some (.int .i64 ((rd_T47 l0 x5_1).f5)) := (blk_cell BK260.out 5).trans rfl
                    have hcz31_6 : w10.cell? ⟨gb260, 6, none⟩ = some (.int .i64 ((rd_T47 l0 x5_1).f6)) := (blk_cell BK260.out 6).trans rfl
                    have hcz31_7 : w10.cell? ⟨gb260, 7, none⟩ = some (.slice A259_7 ((rd_T47 l0 x5_1).f7).length c259_7) := (blk_cell BK260.out 7).trans rfl
                    have hfz31_0 := blk_frozen BK260.out 0
                    have hfz31_1 := blk_frozen BK260.out 1
                    have hfz31_2 := blk_frozen BK260.out 2
                    have hfz31_3 := blk_frozen BK260.out 3
                    have hfz31_4 := blk_frozen BK260.out 4
                    have hfz31_5 := blk_frozen BK260.out 5
                    have hfz31_6 := blk_frozen BK260.out 6
                    have hfz31_7 := blk_frozen BK260.out 7
                    have hcz32_0 : w10.cell? ⟨gb262, 0, none⟩ = some (.int .i64 0) := (blk_cell BK262.out 0).trans rfl
                    have hcz32_1 : w10.cell? ⟨gb262, 1, none⟩ = some (.int .i64 0) := (blk_cell BK262.out 1).trans rfl
                    have hcz32_2 : w10.cell? ⟨gb262, 2, none⟩ = some (.int .i64 0) := (blk_cell BK262.out 2).trans rfl
                    have hcz32_3 : w10.cell? ⟨gb262, 3, none⟩ = some (.slice none 0 0) := (blk_cell BK262.out 3).trans rfl
                    have hcz32_4 : w10.cell? ⟨gb262, 4, none⟩ = some (.int .i64 0) := (blk_cell BK262.out 4).trans rfl
                    have hcz32_5 : w10.cell? ⟨gb262, 5, none⟩ = some (.int .i64 0) := (blk_cell BK262.out 5).trans rfl
                    have hcz32_6 : w10.cell? ⟨gb262, 6, none⟩ = some (.int .i64 0) := (blk_cell BK262.out 6).trans rfl
                    have hcz32_7 : w10.cell? ⟨gb262, 7, none⟩ = some (.slice none 0 0) := (blk_cell BK262.out 7).trans rfl
                    have hfz32_0 := blk_frozen BK262.out 0
                    have hfz32_1 := blk_frozen BK262.out 1
                    have hfz32_2 := blk_frozen BK262.out 2
                    have hfz32_3 := blk_frozen BK262.out 3
                    have hfz32_4 := blk_frozen BK262.out 4
                    have hfz32_5 := blk_frozen BK262.out 5
                    have hfz32_6 := blk_frozen BK262.out 6
                    have hfz32_7 := blk_frozen BK262.out 7
                    go_wp2
                    go_meet
                    case rel => exact ⟨_, (true), (by first | rfl | (simp; done) | (simp [*]; done)), H', ⟨by have := HK1.out; first | omega | exact Nat.le_refl _⟩, ⟨by (with_reducible repeat (first | refine blk_drewN ?_ _ | refine blk_drew ?_ | refine blk_alloc ?_ _)); refine blk_far ?_ NB260_262.out _; (with_reducible repeat (first | refine blk_drewN ?_ _ | refine blk_drew ?_ | refine blk_alloc ?_ _)); refine blk_far ?_ NB260_262.out _; (with_reducible repeat (first | refine blk_drewN ?_ _ | refine blk_drew ?_ | refine blk_alloc ?_ _)); refine blk_far ?_ NB260_262.out _; (with_reducible repeat (first | refine blk_drewN ?_ _ | refine blk_drew ?_ | refine blk_alloc ?_ _)); refine blk_far ?_ NB260_262.out _; (with_reducible repeat (first | refine blk_drewN ?_ _ | refine blk_drew ?_ | refine blk_alloc ?_ _)); refine blk_far ?_ NB260_262.out _; (with_reducible repeat (first | refine blk_drewN ?_ _ | refine blk_drew ?_ | refine blk_alloc ?_ _)); refine blk_far ?_ NB260_262.out _; (with_reducible repeat (first | refine blk_drewN ?_ _ | refine blk_drew ?_ | refine blk_alloc ?_ _)); refine blk_far ?_ NB260_262.out _; (with_reducible repeat (first | refine blk_drewN ?_ _ | refine blk_drew ?_ | refine blk_alloc ?_ _)); refine blk_far ?_ NB260_262.out _; (with_reducible repeat (first | refine blk_drewN ?_ _ | refine blk_drew ?_ | refine blk_alloc ?_ _)); exact BK260.out⟩, ⟨by (with_reducible repeat (first | refine blk_drewN ?_ _ | refine blk_drew ?_ | refine blk_alloc ?_ _)); refine blk_put (cs := #[.int .i64 ((rd_T47 l1 x5_1).f0), .int .i64 ((rd_T47 l1 x5_1).f1), .int .i64 ((rd_T47 l1 x5_1).f2), .slice A261_3 ((rd_T47 l1 x5_1).f3).length c261_3, .int .i64 ((rd_T47 l1 x5_1).f4), .int .i64 ((rd_T47 l1 x5_1).f5), .int .i64 ((rd_T47 l1 x5_1).f6), .slice none 0 0]) ?_ 7 _ rfl; (with_reducible repeat (first | refine blk_drewN ?_ _ | refine blk_drew ?_ | refine blk_alloc ?_ _)); refine blk_put (cs := #[.int .i64 ((rd_T47 l1 x5_1).f0), .int .i64 ((rd_T47 l1 x5_1).f1), .int .i64 ((rd_T47 l1 x5_1).f2), .slice A261_3 ((rd_T47 l1 x5_1).f3).length c261_3, .int .i64 ((rd_T47 l1 x5_1).f4), .int .i64 ((rd_T47 l1 x5_1).f5), .int .i64 0, .slice none 0 0]) ?_ 6 _ rfl; (with_reducible repeat (first | refine blk_drewN ?_ _ | refine blk_drew ?_ | refine blk_alloc ?_ _)); refine blk_put (cs := #[.int .i64 ((rd_T47 l1 x5_1).f0), .int .i64 ((rd_T47 l1 x5_1).f1), .int .i64 ((rd_T47 l1 x5_1).f2), .slice A261_3 ((rd_T47 l1 x5_1).f3).length c261_3, .int .i64 ((rd_T47 l1 x5_1).f4), .int .i64 0, .int .i64 0, .slice none 0 0]) ?_ 5 _ rfl; (with_reducible repeat (first | refine blk_drewN ?_ _ | refine blk_drew ?_ | refine blk_alloc ?_ _)); refine blk_put (cs := #[.int .i64 ((rd_T47 l1 x5_1).f0), .int .i64 ((rd_T47 l1 x5_1).f1), .int .i64 ((rd_T47 l1 x5_1).f2), .slice A261_3 ((rd_T47 l1 x5_1).f3).length c261_3, .int .i64 0, .int .i64 0, .int .i64 0, .slice none 0 0]) ?_ 4 _ rfl; (with_reducible repeat (first | refine blk_drewN ?_ _ | refine blk_drew ?_ | refine blk_alloc ?_ _)); refine blk_put (cs := #[.int .i64 ((rd_T47 l1 x5_1).f0), .int .i64 ((rd_T47 l1 x5_1).f1), .int .i64 ((rd_T47 l1 x5_1).f2), .slice none 0 0, .int .i64 0, .int .i64 0, .int .i64 0, .slice none 0 0]) ?_ 3 _ rfl; (with_reducible repeat (first | refine blk_drewN ?_ _ | refine blk_drew ?_ | refine blk_alloc ?_ _)); refine blk_put (cs := #[.int .i64 ((rd_T47 l1 x5_1).f0), .int .i64 ((rd_T47 l1 x5_1).f1), .int .i64 0, .slice none 0 0, .int .i64 0, .int .i64 0, .int .i64 0, .slice none 0 0]) ?_ 2 _ rfl; (with_reducible repeat (first | refine blk_drewN ?_ _ | refine blk_drew ?_ | refine blk_alloc ?_ _)); refine blk_put (cs := #[.int .i64 ((rd_T47 l1 x5_1).f0), .int .i64 0, .int .i64 0, .slice none 0 0, .int .i64 0, .int .i64 0, .int .i64 0, .slice none 0 0]) ?_ 1 _ rfl; (with_reducible repeat (first | refine blk_drewN ?_ _ | refine blk_drew ?_ | refine blk_alloc ?_ _)); refine blk_put (cs := #[.int .i64 0, .int .i64 0, .int .i64 0, .slice none 0 0, .int .i64 0, .int .i64 0, .int .i64 0, .slice none 0 0]) ?_ 0 _ rfl; (with_reducible repeat (first | refine blk_drewN ?_ _ | refine blk_drew ?_ | refine blk_alloc ?_ _)); exact BK262.out⟩, ⟨by repeat (first | (with_reducible first | exact HB.out | apply below_alloc | apply pw_below_drewN | apply below_drew1 | refine below_set ?_ GE260.out | refine below_set ?_ GE262.out) | exact HB.out)⟩⟩
                · rw [if_neg c13] at H
                  have c13b0 : (((rd_T47 l0 x5_1).f0) == ((rd_T47 l1 x5_1).f0)) = false := beq_eq_false_iff_ne.mpr c13
                  have c13b1 : (((rd_T47 l0 x5_1).f0) != ((rd_T47 l1 x5_1).f0)) = true := bne_iff_ne.mpr c13
                  (first | rw [c13b0] | (simp only [i64_w, i32_w]; rw [c13b0]) | skip)
                  have H' := Aside0.mk H
                  clear H
                  have hnb33 := NB260_262.out
                  have hnc33 := NB262_260.out
                  have hcz34_0 : w10.cell? ⟨gb260, 0, none⟩ = some (.int .i64 ((rd_T47 l0 x5_1).f0)) := (blk_cell BK260.out 0).trans rfl
                  have hcz34_1 : w10.cell? ⟨gb260, 1, none⟩ = some (.int .i64 ((rd_T47 l0 x5_1).f1)) := (blk_cell BK260.out 1).trans rfl
                  have hcz34_2 : w10.cell? ⟨gb260, 2, none⟩ = some (.int .i64 ((rd_T47 l0 x5_1).f2)) := (blk_cell BK260.out 2).trans rfl
                  have hcz34_3 : w10.cell? ⟨gb260, 3, none⟩ = some (.slice A259_3 ((rd_T47 l0 x5_1).f3).length c259_3) := (blk_cell BK260.out 3).trans rfl
                  have hcz34_4 : w10.cell? ⟨gb260, 4, none⟩ = some (.int .i64 ((rd_T47 l0 x5_1).f4)) := (blk_cell BK260.out 4).trans rfl
                  have hcz34_5 : w10.cell? ⟨gb260, 5, none⟩ = some (.int .i64 ((rd_T47 l0 x5_1).f5)) := (blk_cell BK260.out 5).trans rfl
                  have hcz34_6 : w10.cell? ⟨gb260, 6, none⟩ = some (.int .i64 ((rd_T47 l0 x5_1).f6)) := (blk_cell BK260.out 6).trans rfl
                  have hcz34_7 : w10.cell? ⟨gb260, 7, none⟩ = some (.slice A259_7 ((rd_T47 l0 x5_1).f7).length c259_7) := (blk_cell BK260.out 7).trans rfl
                  have hfz34_0 := blk_frozen BK260.out 0
                  have hfz34_1 := blk_frozen BK260.out 1
                  have hfz34_2 := blk_frozen BK260.out 2
                  have hfz34_3 := blk_frozen BK260.out 3
                  have hfz34_4 := blk_frozen BK260.out 4
                  have hfz34_5 := blk_frozen BK260.out 5
                  have hfz34_6 := blk_frozen BK260.out 6
                  have hfz34_7 := blk_frozen BK260.out 7
                  have hcz35_0 : w10.cell? ⟨gb262, 0, none⟩ = some (.int .i64 0) := (blk_cell BK262.out 0).trans rfl
                  have hcz35_1 : w10.cell? ⟨gb262, 1, none⟩ = some (.int .i64 0) := (blk_cell BK262.out 1).trans rfl
                  have hcz35_2 : w10.cell? ⟨gb262, 2, none⟩ = some (.int .i64 0) := (blk_cell BK262.out 2).trans rfl
                  have hcz35_3 : w10.cell? ⟨gb262, 3, none⟩ = some (.slice none 0 0) := (blk_cell BK262.out 3).trans rfl
                  have hcz35_4 : w10.cell? ⟨gb262, 4, none⟩ = some (.int .i64 0) := (blk_cell BK262.out 4).trans rfl
                  have hcz35_5 : w10.cell? ⟨gb262, 5, none⟩ = some (.int .i64 0) := (blk_cell BK262.out 5).trans rfl
                  have hcz35_6 : w10.cell? ⟨gb262, 6, none⟩ = some (.int .i64 0) := (blk_cell BK262.out 6).trans rfl
                  have hcz35_7 : w10.cell? ⟨gb262, 7, none⟩ = some (.slice none 0 0) := (blk_cell BK262.out 7).trans rfl
                  have hfz35_0 := blk_frozen BK262.out 0
                  have hfz35_1 := blk_frozen BK262.out 1
                  have hfz35_2 := blk_frozen BK262.out 2
                  have hfz35_3 := blk_frozen BK262.out 3
                  have hfz35_4 := blk_frozen BK262.out 4
                  have hfz35_5 := blk_frozen BK262.out 5
                  have hfz35_6 := blk_frozen BK262.out 6
                  have hfz35_7 := blk_frozen BK262.out 7
                  go_wp2
                  go_meet
                  case rel => exact ⟨_, (true), (by first | rfl | (simp; done) | (simp [*]; done)), H', ⟨by have := HK1.out; first | omega | exact Nat.le_refl _⟩, ⟨by (with_reducible repeat (first | refine blk_drewN ?_ _ | refine blk_drew ?_ | refine blk_alloc ?_ _)); refine blk_far ?_ NB260_262.out _; (with_reducible repeat (first | refine blk_drewN ?_ _ | refine blk_drew ?_ | refine blk_alloc ?_ _)); refine blk_far ?_ NB260_262.out _; (with_reducible repeat (first | refine blk_drewN ?_ _ | refine blk_drew ?_ | refine blk_alloc ?_ _)); refine blk_far ?_ NB260_262.out _; (with_reducible repeat (first | refine blk_drewN ?_ _ | refine blk_drew ?_ | refine blk_alloc ?_ _)); refine blk_far ?_ NB260_262.out _; (with_reducible repeat (first | refine blk_drewN ?_ _ | refine blk_drew ?_ | refine blk_alloc ?_ _)); refine blk_far ?_ NB260_262.out _; (with_reducible repeat (first | refine blk_drewN ?_ _ | refine blk_drew ?_ | refine blk_alloc ?_ _)); refine blk_far ?_ NB260_262.out _; (with_reducible repeat (first | refine blk_drewN ?_ _ | refine blk_drew ?_ | refine blk_alloc ?_ _)); refine blk_far ?_ NB260_262.out _; (with_reducible repeat (first | refine blk_drewN ?_ _ | refine blk_drew ?_ | refine blk_alloc ?_ _)); refine blk_far ?_ NB260_262.out _; (with_reducible repeat (first | refine blk_drewN ?_ _ | refine blk_drew ?_ | refine blk_alloc ?_ _)); exact BK260.out⟩, ⟨by (with_reducible repeat (first | refine blk_drewN ?_ _ | refine blk_drew ?_ | refine blk_alloc ?_ _)); refine blk_put (cs := #[.int .i64 ((rd_T47 l1 x5_1).f0), .int .i64 ((rd_T47 l1 x5_1).f1), .int .i64 ((rd_T47 l1 x5_1).f2), .slice A261_3 ((rd_T47 l1 x5_1).f3).length c261_3, .int .i64 ((rd_T47 l1 x5_1).f4), .int .i64 ((rd_T47 l1 x5_1).f5), .int .i64 ((rd_T47 l1 x5_1).f6), .slice none 0 0]) ?_ 7 _ rfl; (with_reducible repeat (first | refine blk_drewN ?_ _ | refine blk_drew ?_ | refine blk_alloc ?_ _)); refine blk_put (cs := #[.int .i64 ((rd_T47 l1 x5_1).f0), .int .i64 ((rd_T47 l1 x5_1).f1), .int .i64 ((rd_T47 l1 x5_1).f2), .slice A261_3 ((rd_T47 l1 x5_1).f3).length c261_3, .int .i64 ((rd_T47 l1 x5_1).f4), .int .i64 ((rd_T47 l1 x5_1).f5), .int .i64 0, .slice none 0 0]) ?_ 6 _ rfl; (with_reducible repeat (first | refine blk_drewN ?_ _ | refine blk_drew ?_ | refine blk_alloc ?_ _)); refine blk_put (cs := #[.int .i64 ((rd_T47 l1 x5_1).f0), .int .i64 ((rd_T47 l1 x5_1).f1), .int .i64 ((rd_T47 l1 x5_1).f2), .slice A261_3 ((rd_T47 l1 x5_1).f3).length c261_3, .int .i64 ((rd_T47 l1 x5_1).f4), .int .i64 0, .int .i64 0, .slice none 0 0]) ?_ 5 _ rfl; (with_reducible repeat (first | refine blk_drewN ?_ _ | refine blk_drew ?_ | refine blk_alloc ?_ _)); refine blk_put (cs := #[.int .i64 ((rd_T47 l1 x5_1).f0), .int .i64 ((rd_T47 l1 x5_1).f1), .int .i64 ((rd_T47 l1 x5_1).f2), .slice A261_3 ((rd_T47 l1 x5_1).f3).length c261_3, .int .i64 0, .int .i64 0, .int .i64 0, .slice none 0 0]) ?_ 4 _ rfl; (with_reducible repeat (first | refine blk_drewN ?_ _ | refine blk_drew ?_ | refine blk_alloc ?_ _)); refine blk_put (cs := #[.int .i64 ((rd_T47 l1 x5_1).f0), .int .i64 ((rd_T47 l1 x5_1).f1), .int .i64 ((rd_T47 l1 x5_1).f2), .slice none 0 0, .int .i64 0, .int .i64 0, .int .i64 0, .slice none 0 0]) ?_ 3 _ rfl; (with_reducible repeat (first | refine blk_drewN ?_ _ | refine blk_drew ?_ | refine blk_alloc ?_ _)); refine blk_put (cs := #[.int .i64 ((rd_T47 l1 x5_1).f0), .int .i64 ((rd_T47 l1 x5_1).f1), .int .i64 0, .slice none 0 0, .int .i64 0, .int .i64 0, .int .i64 0, .slice none 0 0]) ?_ 2 _ rfl; (with_reducible repeat (first | refine blk_drewN ?_ _ | refine blk_drew ?_ | refine blk_alloc ?_ _)); refine blk_put (cs := #[.int .i64 ((rd_T47 l1 x5_1).f0), .int .i64 0, .int .i64 0, .slice none 0 0, .int .i64 0, .int .i64 0, .int .i64 0, .slice none 0 0]) ?_ 1 _ rfl; (with_reducible repeat (first | refine blk_drewN ?_ _ | refine blk_drew ?_ | refine blk_alloc ?_ _)); refine blk_put (cs := #[.int .i64 0, .int .i64 0, .int .i64 0, .slice none 0 0, .int .i64 0, .int .i64 0, .int .i64 0, .slice none 0 0]) ?_ 0 _ rfl; (with_reducible repeat (first | refine blk_drewN ?_ _ | refine blk_drew ?_ | refine blk_alloc ?_ _)); exact BK262.out⟩, ⟨by repeat (first | (with_reducible first | exact HB.out | apply below_alloc | apply pw_below_drewN | apply below_drew1 | refine below_set ?_ GE260.out | refine below_set ?_ GE262.out) | exact HB.out)⟩⟩
              case rest =>
                clear HC7
                try clear c1
                try clear c2
                try clear p2
                try clear q2
                try clear hx2
                try clear c3
                try clear c3b0
                try clear c3b1
                try clear c3b2
                try clear c4
                try clear c4b0
                try clear c5
                try clear c5b0
                try clear c6
                try clear c6b0
                try clear c11
                try clear c13
                try clear c13b0
                try clear c13b1
                try clear c14
                try clear c14b0
                try clear c14b1
                try clear c15
                try clear c15b0
                try clear c15b1
                try clear c16
                try clear c16b0
                try clear c16b1
                try clear c17
                try clear c17b0
                try clear c17b1
                try clear c18
                try clear c21
                try clear c24
                try clear c25
                try clear p25
                try clear q25
                try clear hx25
                try clear c26
                try clear p26
                try clear q26
                try clear hx26
                try clear c27
                try clear c30
                try clear c33
                try clear hcz12_0
                try clear hcz12_1
                try clear hcz12_2
                try clear hcz12_3
                try clear hcz12_4
                try clear hcz12_5
                try clear hcz12_6
                try clear hcz12_7
                try clear hcz19_0
                try clear hcz19_1
                try clear hcz19_2
                try clear hcz19_3
                try clear hcz19_4
                try clear hcz19_5
                try clear hcz19_6
                try clear hcz19_7
                try clear hcz20_0
                try clear hcz20_1
                try clear hcz20_2
                try clear hcz20_3
                try clear hcz20_4
                try clear hcz20_5
                try clear hcz20_6
                try clear hcz20_7
                try clear hcz22_0
                try clear hcz22_1
                try clear hcz22_2
                try clear hcz22_3
                try clear hcz22_4
                try clear hcz22_5
                try clear hcz22_6
                try clear hcz22_7
                try clear hcz23_0
                try clear hcz23_1
                try clear hcz23_2
                try clear hcz23_3
                try clear hcz23_4
                try clear hcz23_5
                try clear hcz23_6
                try clear hcz23_7
                try clear hcz25_0
                try clear hcz25_1
                try clear hcz25_2
                try clear hcz25_3
                try clear hcz25_4
                try clear hcz25_5
                try clear hcz25_6
                try clear hcz25_7
                try clear hcz26_0
                try clear hcz26_1
                try clear hcz26_2
                try clear hcz26_3
                try clear hcz26_4
                try clear hcz26_5
                try clear hcz26_6
                try clear hcz26_7
                try clear hcz28_0
                try clear hcz28_1
                try clear hcz28_2
                try clear hcz28_3
                try clear hcz28_4
                try clear hcz28_5
                try clear hcz28_6
                try clear hcz28_7
                try clear hcz29_0
                try clear hcz29_1
                try clear hcz29_2
                try clear hcz29_3
                try clear hcz29_4
                try clear hcz29_5
                try clear hcz29_6
                try clear hcz29_7
                try clear hcz31_0
                try clear hcz31_1
                try clear hcz31_2
                try clear hcz31_3
                try clear hcz31_4
                try clear hcz31_5
                try clear hcz31_6
                try clear hcz31_7
                try clear hcz32_0
                try clear hcz32_1
                try clear hcz32_2
                try clear hcz32_3
                try clear hcz32_4
                try clear hcz32_5
                try clear hcz32_6
                try clear hcz32_7
                try clear hcz34_0
                try clear hcz34_1
                try clear hcz34_2
                try clear hcz34_3
                try clear hcz34_4
                try clear hcz34_5
                try clear hcz34_6
                try clear hcz34_7
                try clear hcz35_0
                try clear hcz35_1
                try clear hcz35_2
                try clear hcz35_3
                try clear hcz35_4
                try clear hcz35_5
                try clear hcz35_6
                try clear hcz35_7
                try clear hcz9_0
                try clear hcz9_1
                try clear hcz9_2
                try clear hcz9_3
                try clear hcz9_4
                try clear hcz9_5
                try clear hcz9_6
                try clear hcz9_7
                try clear hfz12_0
                try clear hfz12_1
                try clear hfz12_2
                try clear hfz12_3
                try clear hfz12_4
                try clear hfz12_5
                try clear hfz12_6
                try clear hfz12_7
                try clear hfz19_0
                try clear hfz19_1
                try clear hfz19_2
                try clear hfz19_3
                try clear hfz19_4
                try clear hfz19_5
                try clear hfz19_6
                try clear hfz19_7
                try clear hfz20_0
                try clear hfz20_1
                try clear hfz20_2
                try clear hfz20_3
                try clear hfz20_4
                try clear hfz20_5
                try clear hfz20_6
                try clear hfz20_7
                try clear hfz22_0
                try clear hfz22_1
                try clear hfz22_2
                try clear hfz22_3
                try clear hfz22_4
                try clear hfz22_5
                try clear hfz22_6
                try clear hfz22_7
                try clear hfz23_0
                try clear hfz23_1
                try clear hfz23_2
                try clear hfz23_3
                try clear hfz23_4
                try clear hfz23_5
                try clear hfz23_6
                try clear hfz23_7
                try clear hfz25_0
                try clear hfz25_1
                try clear hfz25_2
                try clear hfz25_3
                try clear hfz25_4
                try clear hfz25_5
                try clear hfz25_6
                try clear hfz25_7
                try clear hfz26_0
                try clear hfz26_1
                try clear hfz26_2
                try clear hfz26_3
                try clear hfz26_4
                try clear hfz26_5
                try clear hfz26_6
                try clear hfz26_7
                try clear hfz28_0
                try clear hfz28_1
                try clear hfz28_2
                try clear hfz28_3
                try clear hfz28_4
                try clear hfz28_5
                try clear hfz28_6
                try clear hfz28_7
                try clear hfz29_0
                try clear hfz29_1
                try clear hfz29_2
                try clear hfz29_3
                try clear hfz29_4
                try clear hfz29_5
                try clear hfz29_6
                try clear hfz29_7
                try clear hfz31_0
                try clear hfz31_1
                try clear hfz31_2
                try clear hfz31_3
                try clear hfz31_4
                try clear hfz31_5
                try clear hfz31_6
                try clear hfz31_7
                try clear hfz32_0
                try clear hfz32_1
                try clear hfz32_2
                try clear hfz32_3
                try clear hfz32_4
                try clear hfz32_5
                try clear hfz32_6
                try clear hfz32_7
                try clear hfz34_0
                try clear hfz34_1
                try clear hfz34_2
                try clear hfz34_3
                try clear hfz34_4
                try clear hfz34_5
                try clear hfz34_6
                try clear hfz34_7
                try clear hfz35_0
                try clear hfz35_1
                try clear hfz35_2
                try clear hfz35_3
                try clear hfz35_4
                try clear hfz35_5
                try clear hfz35_6
                try clear hfz35_7
                try clear hfz9_0
                try clear hfz9_1
                try clear hfz9_2
                try clear hfz9_3
                try clear hfz9_4
                try clear hfz9_5
                try clear hfz9_6
                try clear hfz9_7
                try clear hx259_0
                try clear hx259_1
                try clear hx259_2
                try clear hx259_3
                try clear hx259_4
                try clear hx259_5
                try clear hx259_6
                try clear hx259_7
                try clear hx261_0
                try clear hx261_1
                try clear hx261_2
                try clear hx261_3
                try clear hx261_4
                try clear hx261_5
                try clear hx261_6
                try clear hx261_7
                try clear p2
                try clear p259
                try clear p261
                try clear q259
                try clear q261
                obtain ⟨kq, x66_6, rfl, HA, HJ6, BK260, BK262, HB⟩ := hcut
                cases kq with
                | zero => exact absurd HA.out (by simp [portagekit_sameIns.j1])
                | succ kj6 =>
                  have H := HA.out
                  clear HA
                  simp only [portagekit_sameIns.j1] at H
                  by_cases c36 : x66_6 = true
                  · subst c36
                    have H1 : (some false) = some r := by rw [if_pos rfl] at H; exact H
                    clear H
                    have H := H1
                    clear H1
                    obtain rfl := Option.some.inj H
                    go_wp2
                    go_ret
                    exact ⟨by first | rfl | (simp [errW_none, errW_some] <;> rfl) | (simp [*, errW_none, errW_some] <;> rfl), by repeat (first | (with_reducible first | exact HB.out | apply below_alloc | apply pw_below_drewN | apply below_drew1 | refine below_set ?_ GE260.out | refine below_set ?_ GE262.out) | exact HB.out)⟩
                  · replace c36 := Bool.eq_false_iff.mpr c36
                    subst c36
                    have H1 : ((portagekit_sameOpnds.f kj6 ((rd_T47 l0 x5_1).f3) ((rd_T47 l1 x5_1).f3)).bind fun t263 => (if t263 = true then ((portagekit_sameShapes.f kj6 ((rd_T47 l0 x5_1).f7) ((rd_T47 l1 x5_1).f7)).bind fun t264 => (if t264 = true then (portagekit_sameIns.l0 kj6 l0 l1 (wrap64 (x5_1 + 1))) else (some false))) else (some false))) = some r := by rw [if_neg (show ¬ (false = true) by decide)] at H; exact H
                    clear H
                    have H := H1
                    clear H1
                    replace H := Option.bind_eq_some_iff.mp H
                    obtain ⟨t263, A370, H⟩ := H
                    replace H : (if t263 = true then ((portagekit_sameShapes.f kj6 ((rd_T47 l0 x5_1).f7) ((rd_T47 l1 x5_1).f7)).bind fun t264 => (if t264 = true then (portagekit_sameIns.l0 kj6 l0 l1 (wrap64 (x5_1 + 1))) else (some false))) else (some false)) = some r := H
                    have A37 := Aside0.mk A370
                    clear A370
                    by_cases c38 : t263 = true
                    · subst c38
                      have H1 : ((portagekit_sameShapes.f kj6 ((rd_T47 l0 x5_1).f7) ((rd_T47 l1 x5_1).f7)).bind fun t264 => (if t264 = true then (portagekit_sameIns.l0 kj6 l0 l1 (wrap64 (x5_1 + 1))) else (some false))) = some r := by rw [if_pos rfl] at H; exact H
                      clear H
                      have H := H1
                      clear H1
                      replace H := Option.bind_eq_some_iff.mp H
                      obtain ⟨t264, A390, H⟩ := H
                      replace H : (if t264 = true then (portagekit_sameIns.l0 kj6 l0 l1 (wrap64 (x5_1 + 1))) else (some false)) = some r := H
                      have A39 := Aside0.mk A390
                      clear A390
                      by_cases c40 : t264 = true
                      · subst c40
                        have H1 : (portagekit_sameIns.l0 kj6 l0 l1 (wrap64 (x5_1 + 1))) = some r := by rw [if_pos rfl] at H; exact H
                        clear H
                        have H := H1
                        clear H1
                        have H' := Aside0.mk H
                        clear H
                        have hnb41 := NB260_262.out
                        have hnc41 := NB262_260.out
                        have hcz42_0 : wc.cell? ⟨gb260, 0, none⟩ = some (.int .i64 ((rd_T47 l0 x5_1).f0)) := (blk_cell BK260.out 0).trans rfl
                        have hcz42_1 : wc.cell? ⟨gb260, 1, none⟩ = some (.int .i64 ((rd_T47 l0 x5_1).f1)) := (blk_cell BK260.out 1).trans rfl
                        have hcz42_2 : wc.cell? ⟨gb260, 2, none⟩ = some (.int .i64 ((rd_T47 l0 x5_1).f2)) := (blk_cell BK260.out 2).trans rfl
                        have hcz42_3 : wc.cell? ⟨gb260, 3, none⟩ = some (.slice A259_3 ((rd_T47 l0 x5_1).f3).length c259_3) := (blk_cell BK260.out 3).trans rfl
                        have hcz42_4 : wc.cell? ⟨gb260, 4, none⟩ = some (.int .i64 ((rd_T47 l0 x5_1).f4)) := (blk_cell BK260.out 4).trans rfl
                        have hcz42_5 : wc.cell? ⟨gb260, 5, none⟩ = some (.int .i64 ((rd_T47 l0 x5_1).f5)) := (blk_cell BK260.out 5).trans rfl
                        have hcz42_6 : wc.cell? ⟨gb260, 6, none⟩ = some (.int .i64 ((rd_T47 l0 x5_1).f6)) := (blk_cell BK260.out 6).trans rfl
                        have hcz42_7 : wc.cell? ⟨gb260, 7, none⟩ = some (.slice A259_7 ((rd_T47 l0 x5_1).f7).length c259_7) := (blk_cell BK260.out 7).trans rfl
                        have hfz42_0 := blk_frozen BK260.out 0
                        have hfz42_1 := blk_frozen BK260.out 1
                        have hfz42_2 := blk_frozen BK260.out 2
                        have hfz42_3 := blk_frozen BK260.out 3
                        have hfz42_4 := blk_frozen BK260.out 4
                        have hfz42_5 := blk_frozen BK260.out 5
                        have hfz42_6 := blk_frozen BK260.out 6
                        have hfz42_7 := blk_frozen BK260.out 7
                        have hcz43_0 : wc.cell? ⟨gb262, 0, none⟩ = some (.int .i64 ((rd_T47 l1 x5_1).f0)) := (blk_cell BK262.out 0).trans rfl
                        have hcz43_1 : wc.cell? ⟨gb262, 1, none⟩ = some (.int .i64 ((rd_T47 l1 x5_1).f1)) := (blk_cell BK262.out 1).trans rfl
                        have hcz43_2 : wc.cell? ⟨gb262, 2, none⟩ = some (.int .i64 ((rd_T47 l1 x5_1).f2)) := (blk_cell BK262.out 2).trans rfl
                        have hcz43_3 : wc.cell? ⟨gb262, 3, none⟩ = some (.slice A261_3 ((rd_T47 l1 x5_1).f3).length c261_3) := (blk_cell BK262.out 3).trans rfl
                        have hcz43_4 : wc.cell? ⟨gb262, 4, none⟩ = some (.int .i64 ((rd_T47 l1 x5_1).f4)) := (blk_cell BK262.out 4).trans rfl
                        have hcz43_5 : wc.cell? ⟨gb262, 5, none⟩ = some (.int .i64 ((rd_T47 l1 x5_1).f5)) := (blk_cell BK262.out 5).trans rfl
                        have hcz43_6 : wc.cell? ⟨gb262, 6, none⟩ = some (.int .i64 ((rd_T47 l1 x5_1).f6)) := (blk_cell BK262.out 6).trans rfl
                        have hcz43_7 : wc.cell? ⟨gb262, 7, none⟩ = some (.slice A261_7 ((rd_T47 l1 x5_1).f7).length c261_7) := (blk_cell BK262.out 7).trans rfl
                        have hfz43_0 := blk_frozen BK262.out 0
                        have hfz43_1 := blk_frozen BK262.out 1
                        have hfz43_2 := blk_frozen BK262.out 2
                        have hfz43_3 := blk_frozen BK262.out 3
                        have hfz43_4 := blk_frozen BK262.out 4
                        have hfz43_5 := blk_frozen BK262.out 5
                        have hfz43_6 := blk_frozen BK262.out 6
                        have hfz43_7 := blk_frozen BK262.out 7
                        go_wp2_with (first | ((with_reducible refine gate_callee (f := 66) rfl ?_); refine goesL_ (some 71) rfl rfl Try.func66 (by kernel_rfl) rfl #[.slice A259_3 ((rd_T47 l0 x5_1).f3).length c259_3, .slice A261_3 ((rd_T47 l1 x5_1).f3).length c261_3] rfl (by (try simp only [List.map_toArray, List.map_cons, List.map_nil]); first | done | rfl | (simp only [List.length_drop, List.length_take]; rfl)) ?_; (with_reducible refine (portagekit_sameOpnds.calls kj6 _ _ ((rd_T47 l0 x5_1).f3) _ _ ((rd_T47 l1 x5_1).f3) true _ ?side1 ?side2 ?side3 ?side4 A37.out).mono ?_); (case side1 => repeat (first | exact (Kd.C_below HR259_3.out HB.out) | (with_reducible refine Kd.C_alloc ?_ _) | (with_reducible refine Kd.C_drewN ?_ _) | (with_reducible refine Kd.C_drew ?_))); (case side2 => exact HC259_3.out); (case side3 => repeat (first | exact (Kd.C_below HR261_3.out HB.out) | (with_reducible refine Kd.C_alloc ?_ _) | (with_reducible refine Kd.C_drewN ?_ _) | (with_reducible refine Kd.C_drew ?_))); (case side4 => exact HC261_3.out); rintro e w' ⟨rfl, ⟨nd, rfl⟩⟩; refine ⟨_, rfl, ?_⟩) | (go_at_call 67; (with_reducible refine (portagekit_sameShapes.calls kj6 _ _ ((rd_T47 l0 x5_1).f7) _ _ ((rd_T47 l1 x5_1).f7) true _ ?side1 ?side2 ?side3 ?side4 A39.out).mono ?_); (case side1 => repeat (first | exact (Kd.C_below HR259_7.out (by repeat (first | (with_reducible first | exact HB.out | apply below_alloc | apply pw_below_drewN | apply below_drew1 | refine below_set ?_ GE260.out | refine below_set ?_ GE262.out) | exact HB.out))) | (with_reducible refine Kd.C_alloc ?_ _) | (with_reducible refine Kd.C_drewN ?_ _) | (with_reducible refine Kd.C_drew ?_))); (case side2 => exact HC259_7.out); (case side3 => repeat (first | exact (Kd.C_below HR261_7.out (by repeat (first | (with_reducible first | exact HB.out | apply below_alloc | apply pw_below_drewN | apply below_drew1 | refine below_set ?_ GE260.out | refine below_set ?_ GE262.out) | exact HB.out))) | (with_reducible refine Kd.C_alloc ?_ _) | (with_reducible refine Kd.C_drewN ?_ _) | (with_reducible refine Kd.C_drew ?_))); (case side4 => exact HC261_7.out); rintro e w44 ⟨rfl, hb⟩; have n0_ := Aside0.mk (blk_below (g := gb260) (o := .cells #[.int .i64 ((rd_T47 l0 x5_1).f0), .int .i64 ((rd_T47 l0 x5_1).f1), .int .i64 ((rd_T47 l0 x5_1).f2), .slice A259_3 ((rd_T47 l0 x5_1).f3).length c259_3, .int .i64 ((rd_T47 l0 x5_1).f4), .int .i64 ((rd_T47 l0 x5_1).f5), .int .i64 ((rd_T47 l0 x5_1).f6), .slice A259_7 ((rd_T47 l0 x5_1).f7).length c259_7] 47 (0, 0)) (by (with_reducible repeat (first | refine blk_drewN ?_ _ | refine blk_drew ?_ | refine blk_alloc ?_ _)); exact BK260.out) hb); have n1_ := Aside0.mk (blk_below (g := gb262) (o := .cells #[.int .i64 ((rd_T47 l1 x5_1).f0), .int .i64 ((rd_T47 l1 x5_1).f1), .int .i64 ((rd_T47 l1 x5_1).f2), .slice A261_3 ((rd_T47 l1 x5_1).f3).length c261_3, .int .i64 ((rd_T47 l1 x5_1).f4), .int .i64 ((rd_T47 l1 x5_1).f5), .int .i64 ((rd_T47 l1 x5_1).f6), .slice A261_7 ((rd_T47 l1 x5_1).f7).length c261_7] 47 (0, 0)) (by (with_reducible repeat (first | refine blk_drewN ?_ _ | refine blk_drew ?_ | refine blk_alloc ?_ _)); exact BK262.out) hb); have n2_ := Aside0.mk (below_step (by repeat (first | (with_reducible first | exact HB.out | apply below_alloc | apply pw_below_drewN | apply below_drew1 | refine below_set ?_ GE260.out | refine below_set ?_ GE262.out) | exact HB.out)) hb); clear BK260; clear BK262; clear HB; have BK260 := n0_; have BK262 := n1_; have HB := n2_; clear n0_ n1_ n2_; (try clear hb); (try clear hb2); (try clear hk); (try clear hi)))
                        go_roundg kj6
                        case measure => have := HK1.out; have := HJ6.out; omega
                        case rel => exact ⟨(wrap64 (x5_1 + 1)), (by first | rfl | (simp; done) | (simp [*]; done)), H', ⟨by have := HK1.out; have := HJ6.out; omega⟩, ⟨by repeat (first | (with_reducible first | exact HB.out | apply below_alloc | apply pw_below_drewN | apply below_drew1 | refine below_set ?_ GE260.out | refine below_set ?_ GE262.out) | exact HB.out)⟩⟩
                      · replace c40 := Bool.eq_false_iff.mpr c40
                        subst c40
                        have H1 : (some false) = some r := by rw [if_neg (show ¬ (false = true) by decide)] at H; exact H
                        clear H
                        have H := H1
                        clear H1
                        obtain rfl := Option.some.inj H
                        have hnb45 := NB260_262.out
                        have hnc45 := NB262_260.out
                        have hcz46_0 : wc.cell? ⟨gb260, 0, none⟩ = some (.int .i64 ((rd_T47 l0 x5_1).f0)) := (blk_cell BK260.out 0).trans rfl
                        have hcz46_1 : wc.cell? ⟨gb260, 1, none⟩ = some (.int .i64 ((rd_T47 l0 x5_1).f1)) := (blk_cell BK260.out 1).trans rfl
                        have hcz46_2 : wc.cell? ⟨gb260, 2, none⟩ = some (.int .i64 ((rd_T47 l0 x5_1).f2)) := (blk_cell BK260.out 2).trans rfl
                        have hcz46_3 : wc.cell? ⟨gb260, 3, none⟩ = some (.slice A259_3 ((rd_T47 l0 x5_1).f3).length c259_3) := (blk_cell BK260.out 3).trans rfl
                        have hcz46_4 : wc.cell? ⟨gb260, 4, none⟩ = some (.int .i64 ((rd_T47 l0 x5_1).f4)) := (blk_cell BK260.out 4).trans rfl
                        have hcz46_5 : wc.cell? ⟨gb260, 5, none⟩ = some (.int .i64 ((rd_T47 l0 x5_1).f5)) := (blk_cell BK260.out 5).trans rfl
                        have hcz46_6 : wc.cell? ⟨gb260, 6, none⟩ = some (.int .i64 ((rd_T47 l0 x5_1).f6)) := (blk_cell BK260.out 6).trans rfl
                        have hcz46_7 : wc.cell? ⟨gb260, 7, none⟩ = some (.slice A259_7 ((rd_T47 l0 x5_1).f7).length c259_7) := (blk_cell BK260.out 7).trans rfl
                        have hfz46_0 := blk_frozen BK260.out 0
                        have hfz46_1 := blk_frozen BK260.out 1
                        have hfz46_2 := blk_frozen BK260.out 2
                        have hfz46_3 := blk_frozen BK260.out 3
                        have hfz46_4 := blk_frozen BK260.out 4
                        have hfz46_5 := blk_frozen BK260.out 5
                        have hfz46_6 := blk_frozen BK260.out 6
                        have hfz46_7 := blk_frozen BK260.out 7
                        have hcz47_0 : wc.cell? ⟨gb262, 0, none⟩ = some (.int .i64 ((rd_T47 l1 x5_1).f0)) := (blk_cell BK262.out 0).trans rfl
                        have hcz47_1 : wc.cell? ⟨gb262, 1, none⟩ = some (.int .i64 ((rd_T47 l1 x5_1).f1)) := (blk_cell BK262.out 1).trans rfl
                        have hcz47_2 : wc.cell? ⟨gb262, 2, none⟩ = some (.int .i64 ((rd_T47 l1 x5_1).f2)) := (blk_cell BK262.out 2).trans rfl
                        have hcz47_3 : wc.cell? ⟨gb262, 3, none⟩ = some (.slice A261_3 ((rd_T47 l1 x5_1).f3).length c261_3) := (blk_cell BK262.out 3).trans rfl
                        have hcz47_4 : wc.cell? ⟨gb262, 4, none⟩ = some (.int .i64 ((rd_T47 l1 x5_1).f4)) := (blk_cell BK262.out 4).trans rfl
                        have hcz47_5 : wc.cell? ⟨gb262, 5, none⟩ = some (.int .i64 ((rd_T47 l1 x5_1).f5)) := (blk_cell BK262.out 5).trans rfl
                        have hcz47_6 : wc.cell? ⟨gb262, 6, none⟩ = some (.int .i64 ((rd_T47 l1 x5_1).f6)) := (blk_cell BK262.out 6).trans rfl
                        have hcz47_7 : wc.cell? ⟨gb262, 7, none⟩ = some (.slice A261_7 ((rd_T47 l1 x5_1).f7).length c261_7) := (blk_cell BK262.out 7).trans rfl
                        have hfz47_0 := blk_frozen BK262.out 0
                        have hfz47_1 := blk_frozen BK262.out 1
                        have hfz47_2 := blk_frozen BK262.out 2
                        have hfz47_3 := blk_frozen BK262.out 3
                        have hfz47_4 := blk_frozen BK262.out 4
                        have hfz47_5 := blk_frozen BK262.out 5
                        have hfz47_6 := blk_frozen BK262.out 6
                        have hfz47_7 := blk_frozen BK262.out 7
                        go_wp2_with (first | ((with_reducible refine gate_callee (f := 66) rfl ?_); refine goesL_ (some 71) rfl rfl Try.func66 (by kernel_rfl) rfl #[.slice A259_3 ((rd_T47 l0 x5_1).f3).length c259_3, .slice A261_3 ((rd_T47 l1 x5_1).f3).length c261_3] rfl (by (try simp only [List.map_toArray, List.map_cons, List.map_nil]); first | done | rfl | (simp only [List.length_drop, List.length_take]; rfl)) ?_; (with_reducible refine (portagekit_sameOpnds.calls kj6 _ _ ((rd_T47 l0 x5_1).f3) _ _ ((rd_T47 l1 x5_1).f3) true _ ?side1 ?side2 ?side3 ?side4 A37.out).mono ?_); (case side1 => repeat (first | exact (Kd.C_below HR259_3.out HB.out) | (with_reducible refine Kd.C_alloc ?_ _) | (with_reducible refine Kd.C_drewN ?_ _) | (with_reducible refine Kd.C_drew ?_))); (case side2 => exact HC259_3.out); (case side3 => repeat (first | exact (Kd.C_below HR261_3.out HB.out) | (with_reducible refine Kd.C_alloc ?_ _) | (with_reducible refine Kd.C_drewN ?_ _) | (with_reducible refine Kd.C_drew ?_))); (case side4 => exact HC261_3.out); rintro e w' ⟨rfl, ⟨nd, rfl⟩⟩; refine ⟨_, rfl, ?_⟩) | (go_at_call 67; (with_reducible refine (portagekit_sameShapes.calls kj6 _ _ ((rd_T47 l0 x5_1).f7) _ _ ((rd_T47 l1 x5_1).f7) false _ ?side1 ?side2 ?side3 ?side4 A39.out).mono ?_); (case side1 => repeat (first | exact (Kd.C_below HR259_7.out (by repeat (first | (with_reducible first | exact HB.out | apply below_alloc | apply pw_below_drewN | apply below_drew1 | refine below_set ?_ GE260.out | refine below_set ?_ GE262.out) | exact HB.out))) | (with_reducible refine Kd.C_alloc ?_ _) | (with_reducible refine Kd.C_drewN ?_ _) | (with_reducible refine Kd.C_drew ?_))); (case side2 => exact HC259_7.out); (case side3 => repeat (first | exact (Kd.C_below HR261_7.out (by repeat (first | (with_reducible first | exact HB.out | apply below_alloc | apply pw_below_drewN | apply below_drew1 | refine below_set ?_ GE260.out | refine below_set ?_ GE262.out) | exact HB.out))) | (with_reducible refine Kd.C_alloc ?_ _) | (with_reducible refine Kd.C_drewN ?_ _) | (with_reducible refine Kd.C_drew ?_))); (case side4 => exact HC261_7.out); rintro e w48 ⟨rfl, hb⟩; have n0_ := Aside0.mk (blk_below (g := gb260) (o := .cells #[.int .i64 ((rd_T47 l0 x5_1).f0), .int .i64 ((rd_T47 l0 x5_1).f1), .int .i64 ((rd_T47 l0 x5_1).f2), .slice A259_3 ((rd_T47 l0 x5_1).f3).length c259_3, .int .i64 ((rd_T47 l0 x5_1).f4), .int .i64 ((rd_T47 l0 x5_1).f5), .int .i64 ((rd_T47 l0 x5_1).f6), .slice A259_7 ((rd_T47 l0 x5_1).f7).length c259_7] 47 (0, 0)) (by (with_reducible repeat (first | refine blk_drewN ?_ _ | refine blk_drew ?_ | refine blk_alloc ?_ _)); exact BK260.out) hb); have n1_ := Aside0.mk (blk_below (g := gb262) (o := .cells #[.int .i64 ((rd_T47 l1 x5_1).f0), .int .i64 ((rd_T47 l1 x5_1).f1), .int .i64 ((rd_T47 l1 x5_1).f2), .slice A261_3 ((rd_T47 l1 x5_1).f3).length c261_3, .int .i64 ((rd_T47 l1 x5_1).f4), .int .i64 ((rd_T47 l1 x5_1).f5), .int .i64 ((rd_T47 l1 x5_1).f6), .slice A261_7 ((rd_T47 l1 x5_1).f7).length c261_7] 47 (0, 0)) (by (with_reducible repeat (first | refine blk_drewN ?_ _ | refine blk_drew ?_ | refine blk_alloc ?_ _)); exact BK262.out) hb); have n2_ := Aside0.mk (below_step (by repeat (first | (with_reducible first | exact HB.out | apply below_alloc | apply pw_below_drewN | apply below_drew1 | refine below_set ?_ GE260.out | refine below_set ?_ GE262.out) | exact HB.out)) hb); clear BK260; clear BK262; clear HB; have BK260 := n0_; have BK262 := n1_; have HB := n2_; clear n0_ n1_ n2_; (try clear hb); (try clear hb2); (try clear hk); (try clear hi)))
                        go_ret
                        exact ⟨by first | rfl | (simp [errW_none, errW_some] <;> rfl) | (simp [*, errW_none, errW_some] <;> rfl), by repeat (first | (with_reducible first | exact HB.out | apply below_alloc | apply pw_below_drewN | apply below_drew1 | refine below_set ?_ GE260.out | refine below_set ?_ GE262.out) | exact HB.out)⟩
                    · replace c38 := Bool.eq_false_iff.mpr c38
                      subst c38
                      have H1 : (some false) = some r := by rw [if_neg (show ¬ (false = true) by decide)] at H; exact H
                      clear H
                      have H := H1
                      clear H1
                      obtain rfl := Option.some.inj H
                      have hnb49 := NB260_262.out
                      have hnc49 := NB262_260.out
                      have hcz50_0 : wc.cell? ⟨gb260, 0, none⟩ = some (.int .i64 ((rd_T47 l0 x5_1).f0)) := (blk_cell BK260.out 0).trans rfl
                      have hcz50_1 : wc.cell? ⟨gb260, 1, none⟩ = some (.int .i64 ((rd_T47 l0 x5_1).f1)) := (blk_cell BK260.out 1).trans rfl
                      have hcz50_2 : wc.cell? ⟨gb260, 2, none⟩ = some (.int .i64 ((rd_T47 l0 x5_1).f2)) := (blk_cell BK260.out 2).trans rfl
                      have hcz50_3 : wc.cell? ⟨gb260, 3, none⟩ = some (.slice A259_3 ((rd_T47 l0 x5_1).f3).length c259_3) := (blk_cell BK260.out 3).trans rfl
                      have hcz50_4 : wc.cell? ⟨gb260, 4, none⟩ = some (.int .i64 ((rd_T47 l0 x5_1).f4)) := (blk_cell BK260.out 4).trans rfl
                      have hcz50_5 : wc.cell? ⟨gb260, 5, none⟩ = some (.int .i64 ((rd_T47 l0 x5_1).f5)) := (blk_cell BK260.out 5).trans rfl
                      have hcz50_6 : wc.cell? ⟨gb260, 6, none⟩ = some (.int .i64 ((rd_T47 l0 x5_1).f6)) := (blk_cell BK260.out 6).trans rfl
                      have hcz50_7 : wc.cell? ⟨gb260, 7, none⟩ = some (.slice A259_7 ((rd_T47 l0 x5_1).f7).length c259_7) := (blk_cell BK260.out 7).trans rfl
                      have hfz50_0 := blk_frozen BK260.out 0
                      have hfz50_1 := blk_frozen BK260.out 1
                      have hfz50_2 := blk_frozen BK260.out 2
                      have hfz50_3 := blk_frozen BK260.out 3
                      have hfz50_4 := blk_frozen BK260.out 4
                      have hfz50_5 := blk_frozen BK260.out 5
                      have hfz50_6 := blk_frozen BK260.out 6
                      have hfz50_7 := blk_frozen BK260.out 7
                      have hcz51_0 : wc.cell? ⟨gb262, 0, none⟩ = some (.int .i64 ((rd_T47 l1 x5_1).f0)) := (blk_cell BK262.out 0).trans rfl
                      have hcz51_1 : wc.cell? ⟨gb262, 1, none⟩ = some (.int .i64 ((rd_T47 l1 x5_1).f1)) := (blk_cell BK262.out 1).trans rfl
                      have hcz51_2 : wc.cell? ⟨gb262, 2, none⟩ = some (.int .i64 ((rd_T47 l1 x5_1).f2)) := (blk_cell BK262.out 2).trans rfl
                      have hcz51_3 : wc.cell? ⟨gb262, 3, none⟩ = some (.slice A261_3 ((rd_T47 l1 x5_1).f3).length c261_3) := (blk_cell BK262.out 3).trans rfl
                      have hcz51_4 : wc.cell? ⟨gb262, 4, none⟩ = some (.int .i64 ((rd_T47 l1 x5_1).f4)) := (blk_cell BK262.out 4).trans rfl
                      have hcz51_5 : wc.cell? ⟨gb262, 5, none⟩ = some (.int .i64 ((rd_T47 l1 x5_1).f5)) := (blk_cell BK262.out 5).trans rfl
                      have hcz51_6 : wc.cell? ⟨gb262, 6, none⟩ = some (.int .i64 ((rd_T47 l1 x5_1).f6)) := (blk_cell BK262.out 6).trans rfl
                      have hcz51_7 : wc.cell? ⟨gb262, 7, none⟩ = some (.slice A261_7 ((rd_T47 l1 x5_1).f7).length c261_7) := (blk_cell BK262.out 7).trans rfl
                      have hfz51_0 := blk_frozen BK262.out 0
                      have hfz51_1 := blk_frozen BK262.out 1
                      have hfz51_2 := blk_frozen BK262.out 2
                      have hfz51_3 := blk_frozen BK262.out 3
                      have hfz51_4 := blk_frozen BK262.out 4
                      have hfz51_5 := blk_frozen BK262.out 5
                      have hfz51_6 := blk_frozen BK262.out 6
                      have hfz51_7 := blk_frozen BK262.out 7
                      go_wp2_with (first | ((with_reducible refine gate_callee (f := 66) rfl ?_); refine goesL_ (some 71) rfl rfl Try.func66 (by kernel_rfl) rfl #[.slice A259_3 ((rd_T47 l0 x5_1).f3).length c259_3, .slice A261_3 ((rd_T47 l1 x5_1).f3).length c261_3] rfl (by (try simp only [List.map_toArray, List.map_cons, List.map_nil]); first | done | rfl | (simp only [List.length_drop, List.length_take]; rfl)) ?_; (with_reducible refine (portagekit_sameOpnds.calls kj6 _ _ ((rd_T47 l0 x5_1).f3) _ _ ((rd_T47 l1 x5_1).f3) false _ ?side1 ?side2 ?side3 ?side4 A37.out).mono ?_); (case side1 => repeat (first | exact (Kd.C_below HR259_3.out HB.out) | (with_reducible refine Kd.C_alloc ?_ _) | (with_reducible refine Kd.C_drewN ?_ _) | (with_reducible refine Kd.C_drew ?_))); (case side2 => exact HC259_3.out); (case side3 => repeat (first | exact (Kd.C_below HR261_3.out HB.out) | (with_reducible refine Kd.C_alloc ?_ _) | (with_reducible refine Kd.C_drewN ?_ _) | (with_reducible refine Kd.C_drew ?_))); (case side4 => exact HC261_3.out); rintro e w' ⟨rfl, ⟨nd, rfl⟩⟩; refine ⟨_, rfl, ?_⟩))
                      go_ret
                      exact ⟨by first | rfl | (simp [errW_none, errW_some] <;> rfl) | (simp [*, errW_none, errW_some] <;> rfl), by repeat (first | (with_reducible first | exact HB.out | apply below_alloc | apply pw_below_drewN | apply below_drew1 | refine below_set ?_ GE260.out | refine below_set ?_ GE262.out) | exact HB.out)⟩
            · rw [if_neg c6] at H
              exact absurd H (by simp)
          · rw [if_neg c5] at H
            exact absurd H (by simp)
        · rw [if_neg c4] at H
          have c4b0 : decide (x5_1 < (l0.length : Int)) = false := decide_eq_false c4
          clear c4
          obtain rfl := Option.some.inj H
          go_wp2
          go_ret
          exact ⟨by first | rfl | (simp [errW_none, errW_some] <;> rfl) | (simp [*, errW_none, errW_some] <;> rfl), by repeat (first | (with_reducible first | exact HB.out | apply below_alloc | apply pw_below_drewN | apply below_drew1) | exact HB.out)⟩
  · rw [if_neg c3] at H
    have c3b0 : ((l0.length : Int) == (l1.length : Int)) = false := beq_eq_false_iff_ne.mpr c3
    have c3b1 : ((l0.length : Int) != (l1.length : Int)) = true := bne_iff_ne.mpr c3
    have c3b2 : (l0.length == l1.length) = false := by first | simpa using c3 | (simp at c3 ⊢; omega)
    obtain rfl := Option.some.inj H
    go_enter Try.func55, Try.ntmps55
    go_wp2
    go_ret
    exact ⟨by first | rfl | (simp [errW_none, errW_some] <;> rfl) | (simp [*, errW_none, errW_some] <;> rfl), by repeat (first | (with_reducible first | exact HB.out | apply below_alloc | apply pw_below_drewN | apply below_drew1) | exact HB.out)⟩

end Go.Proofs.Ytklknkfoafdgpaa.PLiveKnown
