-- PRINTED BY print.sh 35421559b90ae4d0a3588c463048766b98c2df88dd9212a6774a882060cdf62d: not written by this session
import Derived.Test.YtjeaojolhdfpeaaPProfileBookx0
import Derived.Test.YtjeaojolhdfpeaaPProfileBookx5
import Derived.Test.YtjeaojolhdfpeaaPProfileBookx6
namespace Go.Proofs.Ytjeaojolhdfpeaa.PProfileBook
open Go.RowKit Go.Proofs.YtjeaojolhdfpeaaW.PrintWords Go.Proofs.YtjeaojolhdfpeaaW.PrintLast Go.Proofs.YtjeaojolhdfpeaaW.PrintMore
attribute [local go_sem] max2_int min2_int max_two min_two max_three min_three max_four min_four   -- for this text's walks alone
set_option linter.unusedVariables false
set_option linter.unusedSimpArgs false

/-! ### portageref18_Note: function 35 -/
def portageref18_Note.j0 : Nat → Int → Int → List (S137) → Int → Bool → List (List (S28)) → Option ((List (List (S28))))
  | 0, _, _, _, _, _, _ => none
  | k + 1, x1, x2, x3, x4, x36, x194000 => if x36 = true then (some x194000) else (if 0 ≤ x1 then (if x1 < (x194000.length : Int) then (if 0 ≤ x2 then (if x2 < ((rd_L3 x194000 x1).length : Int) then ((portageref18_bit.f x3 0).bind fun t198 => ((portageref18_bit.f x3 1).bind fun t199 => ((portageref18_Spots.f k ((rd_T28 (rd_L3 x194000 x1) x2).f0) ((rd_T28 (rd_L3 x194000 x1) x2).f1) ((rd_T28 (rd_L3 x194000 x1) x2).f2) ((rd_T28 (rd_L3 x194000 x1) x2).f3) 1 t198 t199 x4).bind fun bt200 => (some (x194000.set (x1 : Int).toNat ((rd_L3 x194000 x1).set (x2 : Int).toNat (⟨bt200.1, bt200.2.1, bt200.2.2.1, bt200.2.2.2⟩ : S28))))))) else (none)) else (none)) else (none)) else (none))
def portageref18_Note.f (k : Nat) (l0_0 : List (List (S28))) (a1 : Int) (a2 : Int) (l3 : List (S137)) (a4 : Int) : Option ((List (List (S28)))) := (portageref0_CopyProfile.f k l0_0).bind fun t190 => (if a1 < 0 then (portageref18_Note.j0 k a1 a2 l3 a4 true t190) else (if a1 ≥ (t190.length : Int) then (portageref18_Note.j0 k a1 a2 l3 a4 true t190) else (if a2 < 0 then (portageref18_Note.j0 k a1 a2 l3 a4 true t190) else (if 0 ≤ a1 then (if a1 < (t190.length : Int) then (portageref18_Note.j0 k a1 a2 l3 a4 (decide (a2 ≥ ((rd_L3 t190 a1).length : Int))) t190) else (none)) else (none)))))
theorem portageref18_Note.mono_l : ∀ k, (∀ y0 y1 y2 y3 y4 y5, LeO (portageref18_Note.j0 k y0 y1 y2 y3 y4 y5) (portageref18_Note.j0 (k + 1) y0 y1 y2 y3 y4 y5))
  | 0 => fun _ _ _ _ _ _ r h => by simp [portageref18_Note.j0] at h
  | k + 1 => by
    have ih0 := portageref18_Note.mono_l k
    · intro y0 y1 y2 y3 y4 y5
      unfold portageref18_Note.j0
      repeat' first
      | (with_reducible exact ih0 _ _ _ _ _ _)
      | (with_reducible exact portageref0_CopyProfile.mono _ _)
      | (with_reducible exact portageref18_Spots.mono _ _ _ _ _ _ _ _ _)
      | (with_reducible exact LeO.refl _)
      | (with_reducible exact LeO.none _)
      | (with_reducible refine LeO.ite ?_ ?_)
      | (with_reducible refine LeO.bind ?_ (fun _ => ?_))
      | exact ih0 _ _ _ _ _ _
      | exact portageref0_CopyProfile.mono _ _
      | exact portageref18_Spots.mono _ _ _ _ _ _ _ _ _
      | exact LeO.none _
      | refine LeO.ite ?_ ?_
      | refine LeO.bind ?_ (fun _ => ?_)
theorem portageref18_Note.mono : ∀ a0 a1 a2 a3 a4 k, LeO (portageref18_Note.f k a0 a1 a2 a3 a4) (portageref18_Note.f (k + 1) a0 a1 a2 a3 a4) := by
  intro a0 a1 a2 a3 a4 k
  have ih0 := portageref18_Note.mono_l k
  unfold portageref18_Note.f
  repeat' first
      | (with_reducible exact ih0 _ _ _ _ _ _)
      | (with_reducible exact portageref0_CopyProfile.mono _ _)
      | (with_reducible exact portageref18_Spots.mono _ _ _ _ _ _ _ _ _)
      | (with_reducible exact LeO.refl _)
      | (with_reducible exact LeO.none _)
      | (with_reducible refine LeO.ite ?_ ?_)
      | (with_reducible refine LeO.bind ?_ (fun _ => ?_))
      | exact ih0 _ _ _ _ _ _
      | exact portageref0_CopyProfile.mono _ _
      | exact portageref18_Spots.mono _ _ _ _ _ _ _ _ _
      | exact LeO.none _
      | refine LeO.ite ?_ ?_
      | refine LeO.bind ?_ (fun _ => ?_)
def portageref18_Note.T4 : Bool × List (List Nat × List Nat) := (true, [([], []), ([0], [0]), ([], []), ([1, 2], [1, 2]), ([3], [3]), ([], []), ([], []), ([6], [6]), ([], []), ([7, 8], [7, 8]), ([9], [9]), ([], []), ([10, 11], [10, 11]), ([12], [12]), ([], []), ([14], [14]), ([], []), ([16, 15], [16]), ([], []), ([15, 17, 18], [15, 17, 18]), ([13, 19, 17], [13, 19]), ([4, 5, 0, 1, 2, 3, 4, 5, 6, 7, 8, 9, 10, 11, 12, 13, 14, 15, 16, 17, 18, 19, 20], [4, 5]), ([21, 20, 20, 0, 1, 2, 3, 4, 5, 6, 7, 8, 9, 10, 11, 12, 13, 14, 15, 16, 17, 18, 19, 20], [20, 21])])
def portageref18_Note.B4 : List Nat := [0, 1, 0, 7, 15, 0, 0, 64, 0, 448, 960, 0, 4032, 8128, 0, 16384, 0, 114688, 0, 507904, 1048512, 2097151, 4194303]
theorem portageref18_Note.tab4 : rtab .any (opsOf Try.f35 4) = portageref18_Note.T4 := by kernel_rfl
theorem portageref18_Note.bits4 : waitsOk portageref18_Note.T4.2 portageref18_Note.B4 = true := by kernel_rfl
set_option maxHeartbeats 8000000 in
set_option maxRecDepth 100000 in
theorem portageref18_Note.calls (k : Nat) (A0_0 : Option Addr) (c0_0 : Nat) (l0_0 : List (List (S28))) (a1 : Int) (a2 : Int) (A3 : Option Addr) (c3 : Nat) (l3 : List (S137)) (a4 : Int) (r : List (List (S28))) (w : World) (hr0_0 : Kd.C (Kd.slice 28 k28) w A0_0 l0_0.length l0_0) (hc0_0 : l0_0.length ≤ c0_0) (hr3 : Kd.C k137 w A3 l3.length l3) (hc3 : l3.length ≤ c3) (h : portageref18_Note.f k l0_0 a1 a2 l3 a4 = some r) :
    Calls Try.prog 35 #[.agg #[.slice A0_0 l0_0.length c0_0], .int .i64 a1, .int .i64 a2, .slice A3 l3.length c3, .int .i64 a4] w fun e w' => ∃ v0_ : Value, e = .returned (.agg #[v0_]) ∧ Kd.S (Kd.slice 28 k28) 77 w' w.heap.size (fun _ => True) v0_ r ∧ Below w.heap.size w w' := by
  have hu24 := Try.underlying24
  have hu28 := Try.underlying28
  have HR0_0 := Aside0.mk hr0_0
  have HC0_0 := Aside0.mk hc0_0
  clear hr0_0 hc0_0
  have HR3 := Aside0.mk hr3
  have HC3 := Aside0.mk hc3
  clear hr3 hc3
  have HB := Aside0.mk (Below.refl w.heap.size w)
  have H : ((portageref0_CopyProfile.f k l0_0).bind fun t190 => (if a1 < 0 then (portageref18_Note.j0 k a1 a2 l3 a4 true t190) else (if a1 ≥ (t190.length : Int) then (portageref18_Note.j0 k a1 a2 l3 a4 true t190) else (if a2 < 0 then (portageref18_Note.j0 k a1 a2 l3 a4 true t190) else (if 0 ≤ a1 then (if a1 < (t190.length : Int) then (portageref18_Note.j0 k a1 a2 l3 a4 (decide (a2 ≥ ((rd_L3 t190 a1).length : Int))) t190) else (none)) else (none)))))) = some r := h
  clear h
  replace H := Option.bind_eq_some_iff.mp H
  obtain ⟨t190, A60, H⟩ := H
  replace H : (if a1 < 0 then (portageref18_Note.j0 k a1 a2 l3 a4 true t190) else (if a1 ≥ (t190.length : Int) then (portageref18_Note.j0 k a1 a2 l3 a4 true t190) else (if a2 < 0 then (portageref18_Note.j0 k a1 a2 l3 a4 true t190) else (if 0 ≤ a1 then (if a1 < (t190.length : Int) then (portageref18_Note.j0 k a1 a2 l3 a4 (decide (a2 ≥ ((rd_L3 t190 a1).length : Int))) t190) else (none)) else (none))))) = some r := H
  have A6 := Aside0.mk A60
  clear A60
  have HC7 := Aside0.mk H
  clear H
  go_enter Try.func35, Try.ntmps35
  go_upto_region 2 with (first | ((with_reducible refine gate_dst (N := 5) rfl ?_); (try (refine gate_guard (by rfl) ?_; dsimp only)); refine box_event ?hg (N := 5) ?hd (cs := #[.slice A0_0 l0_0.length c0_0]) (t := 24) ?hr ?_; (case hd => rfl); (case hg => rfl); (case hr => first | (go_simp; done) | (go_simp; rfl)); intro gb188 hg w8 hbox hb; have n0_ := Aside0.mk (below_step (by repeat (first | (with_reducible first | exact HB.out | apply below_alloc | apply pw_below_drewN | apply below_drew1) | exact HB.out)) hb); have n1_ := Aside0.mk (hbox); have n2_ := Aside0.mk ((by rw [hg]; exact (below_size (by repeat (first | (with_reducible first | exact HB.out | apply below_alloc | apply pw_below_drewN | apply below_drew1) | exact HB.out))) : w.heap.size ≤ gb188)); have n3_ := Aside0.mk ((by rw [hg]; exact (below_size (by repeat (first | (with_reducible first | exact HB.out | apply below_alloc | apply pw_below_drewN | apply below_drew1) | exact HB.out))) : w.heap.size ≤ gb188)); clear HB; have HB := n0_; have BK188 := n1_; have GW188 := n2_; have GE188 := n3_; clear n0_ n1_ n2_ n3_; clear hb hbox hg) | ((with_reducible refine gate_dst (N := 10) rfl ?_); (try (refine gate_guard (by rfl) ?_; dsimp only)); refine box_event ?hg (N := 10) ?hd (cs := #[.slice none 0 0]) (t := 24) ?hr ?_; (case hd => rfl); (case hg => rfl); (case hr => first | (go_simp; done) | (go_simp; rfl)); intro gb189 hg w9 hbox hb; have n0_ := Aside0.mk (blk_below (g := gb188) (o := .cells #[.slice A0_0 l0_0.length c0_0] 24 (0, 0)) (by (with_reducible repeat (first | refine blk_drewN ?_ _ | refine blk_drew ?_ | refine blk_alloc ?_ _)); exact BK188.out) hb); have n1_ := Aside0.mk (below_step (by repeat (first | (with_reducible first | exact HB.out | apply below_alloc | apply pw_below_drewN | apply below_drew1 | refine below_set ?_ GE188.out) | exact HB.out)) hb); have n2_ := Aside0.mk (hbox); have n3_ := Aside0.mk ((by rw [hg]; exact (below_size (by repeat (first | (with_reducible first | exact HB.out | apply below_alloc | apply pw_below_drewN | apply below_drew1 | refine below_set ?_ GE188.out) | exact HB.out))) : w.heap.size ≤ gb189)); have n4_ := Aside0.mk ((by rw [hg]; exact (below_size (by repeat (first | (with_reducible first | exact HB.out | apply below_alloc | apply pw_below_drewN | apply below_drew1 | refine below_set ?_ GE188.out) | exact HB.out))) : w.heap.size ≤ gb189)); have n5_ := Aside0.mk ((by rw [hg]; exact Nat.ne_of_lt (blk_lt (g := gb188) (o := .cells #[.slice A0_0 l0_0.length c0_0] 24 (0, 0)) (by (with_reducible repeat (first | refine blk_drewN ?_ _ | refine blk_drew ?_ | refine blk_alloc ?_ _)); exact BK188.out)) : gb188 ≠ gb189)); have n6_ := Aside0.mk ((by rw [hg]; exact Nat.ne_of_gt (blk_lt (g := gb188) (o := .cells #[.slice A0_0 l0_0.length c0_0] 24 (0, 0)) (by (with_reducible repeat (first | refine blk_drewN ?_ _ | refine blk_drew ?_ | refine blk_alloc ?_ _)); exact BK188.out)) : gb189 ≠ gb188)); clear BK188; clear HB; have BK188 := n0_; have HB := n1_; have BK189 := n2_; have GW189 := n3_; have GE189 := n4_; have NB188_189 := n5_; have NB189_188 := n6_; clear n0_ n1_ n2_ n3_ n4_ n5_ n6_; clear hb hbox hg; have hnb10 := NB188_189.out; have hnc10 := NB189_188.out; have hcz11_0 : w9.cell? ⟨gb188, 0, none⟩ = some (.slice A0_0 l0_0.length c0_0) := (blk_cell BK188.out 0).trans rfl; have hfz11_0 := blk_frozen BK188.out 0) | ((with_reducible refine gate_callee (f := 39) rfl ?_); refine goesL_ (some 13) rfl rfl Try.func39 (by kernel_rfl) rfl #[.agg #[.slice A0_0 l0_0.length c0_0]] rfl (by (try simp only [List.map_toArray, List.map_cons, List.map_nil]); first | done | rfl | (simp only [List.length_drop, List.length_take]; rfl)) ?_; (with_reducible refine (portageref0_CopyProfile.calls k _ _ l0_0 t190 _ ?side1 ?side2 A6.out).mono ?_); (case side1 => repeat (first | exact (Kd.C_below HR0_0.out HB.out) | (with_reducible refine Kd.C_alloc ?_ _) | (with_reducible refine Kd.C_drewN ?_ _) | (with_reducible refine Kd.C_drew ?_))); (case side2 => exact HC0_0.out); rintro e w12 ⟨v191, rfl, ho0, hb⟩; refine ⟨_, rfl, ?_⟩; have n0_ := Aside0.mk (Kd.S_lower ho0 (below_size (by repeat (first | (with_reducible first | exact HB.out | apply below_alloc | apply pw_below_drewN | apply below_drew1 | refine below_set ?_ GE188.out | refine below_set ?_ GE189.out) | exact HB.out)))); have n1_ := Aside0.mk (blk_below (g := gb188) (o := .cells #[.slice A0_0 l0_0.length c0_0] 24 (0, 0)) (by (with_reducible repeat (first | refine blk_drewN ?_ _ | refine blk_drew ?_ | refine blk_alloc ?_ _)); exact BK188.out) hb); have n2_ := Aside0.mk (blk_below (g := gb189) (o := .cells #[.slice none 0 0] 24 (0, 0)) (by (with_reducible repeat (first | refine blk_drewN ?_ _ | refine blk_drew ?_ | refine blk_alloc ?_ _)); exact BK189.out) hb); have n3_ := Aside0.mk (below_step (by repeat (first | (with_reducible first | exact HB.out | apply below_alloc | apply pw_below_drewN | apply below_drew1 | refine below_set ?_ GE188.out | refine below_set ?_ GE189.out) | exact HB.out)) hb); clear BK188; clear BK189; clear HB; have HO192 := n0_; have BK188 := n1_; have BK189 := n2_; have HB := n3_; clear n0_ n1_ n2_ n3_; (try clear hb); (try clear hb2); (try clear hk); (try clear hi); (try clear ho0)) | ((with_reducible refine gate_dst (N := 11) rfl ?_); (try (refine gate_guard (by rfl) ?_; dsimp only)); refine box_event ?hg (N := 11) ?hd (cs := #[.slice none 0 0]) (t := 24) ?hr ?_; (case hd => rfl); (case hg => rfl); (case hr => first | (go_simp; done) | (go_simp; rfl)); intro gb193 hg w13 hbox hb; have n0_ := Aside0.mk (Kd.S_below (by (with_reducible repeat (first | apply Kd.S_alloc | apply Kd.S_drewN | apply Kd.S_drew)); exact HO192.out) hb); have n1_ := Aside0.mk (blk_below (g := gb188) (o := .cells #[.slice A0_0 l0_0.length c0_0] 24 (0, 0)) (by (with_reducible repeat (first | refine blk_drewN ?_ _ | refine blk_drew ?_ | refine blk_alloc ?_ _)); exact BK188.out) hb); have n2_ := Aside0.mk (blk_below (g := gb189) (o := .cells #[.slice none 0 0] 24 (0, 0)) (by (with_reducible repeat (first | refine blk_drewN ?_ _ | refine blk_drew ?_ | refine blk_alloc ?_ _)); exact BK189.out) hb); have n3_ := Aside0.mk (below_step (by repeat (first | (with_reducible first | exact HB.out | apply below_alloc | apply pw_below_drewN | apply below_drew1 | refine below_set ?_ GE188.out | refine below_set ?_ GE189.out) | exact HB.out)) hb); have n4_ := Aside0.mk (hbox); have n5_ := Aside0.mk ((by rw [hg]; exact (below_size (by repeat (first | (with_reducible first | exact HB.out | apply below_alloc | apply pw_below_drewN | apply below_drew1 | refine below_set ?_ GE188.out | refine below_set ?_ GE189.out) | exact HB.out))) : w.heap.size ≤ gb193)); have n6_ := Aside0.mk ((by rw [hg]; exact (below_size (by repeat (first | (with_reducible first | exact HB.out | apply below_alloc | apply pw_below_drewN | apply below_drew1 | refine below_set ?_ GE188.out | refine below_set ?_ GE189.out) | exact HB.out))) : w.heap.size ≤ gb193)); have n7_ := Aside0.mk ((by rw [hg]; exact Nat.ne_of_lt (blk_lt (g := gb188) (o := .cells #[.slice A0_0 l0_0.length c0_0] 24 (0, 0)) (by (with_reducible repeat (first | refine blk_drewN ?_ _ | refine blk_drew ?_ | refine blk_alloc ?_ _)); exact BK188.out)) : gb188 ≠ gb193)); have n8_ := Aside0.mk ((by rw [hg]; exact Nat.ne_of_gt (blk_lt (g := gb188) (o := .cells #[.slice A0_0 l0_0.length c0_0] 24 (0, 0)) (by (with_reducible repeat (first | refine blk_drewN ?_ _ | refine blk_drew ?_ | refine blk_alloc ?_ _)); exact BK188.out)) : gb193 ≠ gb188)); have n9_ := Aside0.mk ((by rw [hg]; exact Nat.ne_of_lt (blk_lt (g := gb189) (o := .cells #[.slice none 0 0] 24 (0, 0)) (by (with_reducible repeat (first | refine blk_drewN ?_ _ | refine blk_drew ?_ | refine blk_alloc ?_ _)); exact BK189.out)) : gb189 ≠ gb193)); have n10_ := Aside0.mk ((by rw [hg]; exact Nat.ne_of_gt (blk_lt (g := gb189) (o := .cells #[.slice none 0 0] 24 (0, 0)) (by (with_reducible repeat (first | refine blk_drewN ?_ _ | refine blk_drew ?_ | refine blk_alloc ?_ _)); exact BK189.out)) : gb193 ≠ gb189)); clear HO192; clear BK188; clear BK189; clear HB; have HO192 := n0_; have BK188 := n1_; have BK189 := n2_; have HB := n3_; have BK193 := n4_; have GW193 := n5_; have GE193 := n6_; have NB188_193 := n7_; have NB193_188 := n8_; have NB189_193 := n9_; have NB193_189 := n10_; clear n0_ n1_ n2_ n3_ n4_ n5_ n6_ n7_ n8_ n9_ n10_; clear hb hbox hg; obtain ⟨Ao14, co14, eo14⟩ := Kd.S_slice HO192.out; subst eo14; have hnb15 := NB193_188.out; have hnc15 := NB188_193.out; have hnb16 := NB193_189.out; have hnc16 := NB189_193.out; have hcz17_0 : w13.cell? ⟨gb193, 0, none⟩ = some (.slice none 0 0) := (blk_cell BK193.out 0).trans rfl; have hfz17_0 := blk_frozen BK193.out 0))
  (try simp only [Act.put, List.setIfInBounds_toArray, List.set_cons_zero, List.set_cons_succ])
  go_cut [36] (fun v36 wc => ∃ (kq : Nat) (x36_6 : Bool), v36 = .bool x36_6 ∧ Aside0 (portageref18_Note.j0 kq a1 a2 l3 a4 x36_6 t190 = some r) ∧ Aside0 (kq ≤ k) ∧ Aside0 (Kd.S (Kd.slice 28 k28) 77 wc w.heap.size (fun _ => True) (.slice Ao14 t190.length co14) t190) ∧ Aside0 (wc.heap[gb188]? = some (.cells #[(.slice A0_0 l0_0.length c0_0)] 24 (0, 0))) ∧ Aside0 (wc.heap[gb189]? = some (.cells #[(.slice none 0 0)] 24 (0, 0))) ∧ Aside0 (wc.heap[gb193]? = some (.cells #[(.slice Ao14 t190.length co14)] 24 (0, 0))) ∧ Aside0 (Below w.heap.size w wc))
  case first =>
    have H := HC7.out
    clear HC7
    by_cases c18 : a1 < 0
    · rw [if_pos c18] at H
      have c18b0 : decide (a1 < 0) = true := decide_eq_true c18
      clear c18
      (first | rw [c18b0] | (simp only [i64_w, i32_w]; rw [c18b0]) | skip)
      have H' := Aside0.mk H
      clear H
      go_wp2
      go_meet
      case rel => exact ⟨_, (true), (by first | rfl | (simp; done) | (simp [*]; done)), H', ⟨by first | omega | exact Nat.le_refl _⟩, ⟨by (with_reducible repeat (first | apply Kd.S_alloc | apply Kd.S_drewN | apply Kd.S_drew)); exact Kd.S_mono (Kd.S_far (p := ⟨gb193, 0, none⟩) (Kd.S_types HO192.out BK193.out (by decide)) (fun _ hk => hk.2) (.slice Ao14 t190.length co14)) (fun _ hk => trivial)⟩, ⟨by (with_reducible repeat (first | refine blk_drewN ?_ _ | refine blk_drew ?_ | refine blk_alloc ?_ _)); refine blk_far ?_ NB188_193.out _; (with_reducible repeat (first | refine blk_drewN ?_ _ | refine blk_drew ?_ | refine blk_alloc ?_ _)); exact BK188.out⟩, ⟨by (with_reducible repeat (first | refine blk_drewN ?_ _ | refine blk_drew ?_ | refine blk_alloc ?_ _)); refine blk_far ?_ NB189_193.out _; (with_reducible repeat (first | refine blk_drewN ?_ _ | refine blk_drew ?_ | refine blk_alloc ?_ _)); exact BK189.out⟩, ⟨by (with_reducible repeat (first | refine blk_drewN ?_ _ | refine blk_drew ?_ | refine blk_alloc ?_ _)); refine blk_put (cs := #[.slice none 0 0]) ?_ 0 _ rfl; (with_reducible repeat (first | refine blk_drewN ?_ _ | refine blk_drew ?_ | refine blk_alloc ?_ _)); exact BK193.out⟩, ⟨by repeat (first | (with_reducible first | exact HB.out | apply below_alloc | apply pw_below_drewN | apply below_drew1 | refine below_set ?_ GE188.out | refine below_set ?_ GE189.out | refine below_set ?_ GE193.out) | exact HB.out)⟩⟩
    · rw [if_neg c18] at H
      have c18b0 : decide (a1 < 0) = false := decide_eq_false c18
      clear c18
      (first | rw [c18b0] | (simp only [i64_w, i32_w]; rw [c18b0]) | skip)
      by_cases c19 : a1 ≥ (t190.length : Int)
      · rw [if_pos c19] at H
        have c19b0 : decide ((t190.length : Int) ≤ a1) = true := decide_eq_true c19
        clear c19
        have H' := Aside0.mk H
        clear H
        have hnb20 := NB193_188.out
        have hnc20 := NB188_193.out
        have hnb21 := NB193_189.out
        have hnc21 := NB189_193.out
        have hcz22_0 : w13.cell? ⟨gb193, 0, none⟩ = some (.slice none 0 0) := (blk_cell BK193.out 0).trans rfl
        have hfz22_0 := blk_frozen BK193.out 0
        go_wp2
        go_meet
        case rel => exact ⟨_, (true), (by first | rfl | (simp; done) | (simp [*]; done)), H', ⟨by first | omega | exact Nat.le_refl _⟩, ⟨by (with_reducible repeat (first | apply Kd.S_alloc | apply Kd.S_drewN | apply Kd.S_drew)); exact Kd.S_mono (Kd.S_far (p := ⟨gb193, 0, none⟩) (Kd.S_types HO192.out BK193.out (by decide)) (fun _ hk => hk.2) (.slice Ao14 t190.length co14)) (fun _ hk => trivial)⟩, ⟨by (with_reducible repeat (first | refine blk_drewN ?_ _ | refine blk_drew ?_ | refine blk_alloc ?_ _)); refine blk_far ?_ NB188_193.out _; (with_reducible repeat (first | refine blk_drewN ?_ _ | refine blk_drew ?_ | refine blk_alloc ?_ _)); exact BK188.out⟩, ⟨by (with_reducible repeat (first | refine blk_drewN ?_ _ | refine blk_drew ?_ | refine blk_alloc ?_ _)); refine blk_far ?_ NB189_193.out _; (with_reducible repeat (first | refine blk_drewN ?_ _ | refine blk_drew ?_ | refine blk_alloc ?_ _)); exact BK189.out⟩, ⟨by (with_reducible repeat (first | refine blk_drewN ?_ _ | refine blk_drew ?_ | refine blk_alloc ?_ _)); refine blk_put (cs := #[.slice none 0 0]) ?_ 0 _ rfl; (with_reducible repeat (first | refine blk_drewN ?_ _ | refine blk_drew ?_ | refine blk_alloc ?_ _)); exact BK193.out⟩, ⟨by repeat (first | (with_reducible first | exact HB.out | apply below_alloc | apply pw_below_drewN | apply below_drew1 | refine below_set ?_ GE188.out | refine below_set ?_ GE189.out | refine below_set ?_ GE193.out) | exact HB.out)⟩⟩
      · rw [if_neg c19] at H
        have c19b0 : decide ((t190.length : Int) ≤ a1) = false := decide_eq_false c19
        clear c19
        by_cases c23 : a2 < 0
        · rw [if_pos c23] at H
          have c23b0 : decide (a2 < 0) = true := decide_eq_true c23
          clear c23
          have H' := Aside0.mk H
          clear H
          have hnb24 := NB193_188.out
          have hnc24 := NB188_193.out
          have hnb25 := NB193_189.out
          have hnc25 := NB189_193.out
          have hcz26_0 : w13.cell? ⟨gb193, 0, none⟩ = some (.slice none 0 0) := (blk_cell BK193.out 0).trans rfl
          have hfz26_0 := blk_frozen BK193.out 0
          go_wp2
          go_meet
          case rel => exact ⟨_, (true), (by first | rfl | (simp; done) | (simp [*]; done)), H', ⟨by first | omega | exact Nat.le_refl _⟩, ⟨by (with_reducible repeat (first | apply Kd.S_alloc | apply Kd.S_drewN | apply Kd.S_drew)); exact Kd.S_mono (Kd.S_far (p := ⟨gb193, 0, none⟩) (Kd.S_types HO192.out BK193.out (by decide)) (fun _ hk => hk.2) (.slice Ao14 t190.length co14)) (fun _ hk => trivial)⟩, ⟨by (with_reducible repeat (first | refine blk_drewN ?_ _ | refine blk_drew ?_ | refine blk_alloc ?_ _)); refine blk_far ?_ NB188_193.out _; (with_reducible repeat (first | refine blk_drewN ?_ _ | refine blk_drew ?_ | refine blk_alloc ?_ _)); exact BK188.out⟩, ⟨by (with_reducible repeat (first | refine blk_drewN ?_ _ | refine blk_drew ?_ | refine blk_alloc ?_ _)); refine blk_far ?_ NB189_193.out _; (with_reducible repeat (first | refine blk_drewN ?_ _ | refine blk_drew ?_ | refine blk_alloc ?_ _)); exact BK189.out⟩, ⟨by (with_reducible repeat (first | refine blk_drewN ?_ _ | refine blk_drew ?_ | refine blk_alloc ?_ _)); refine blk_put (cs := #[.slice none 0 0]) ?_ 0 _ rfl; (with_reducible repeat (first | refine blk_drewN ?_ _ | refine blk_drew ?_ | refine blk_alloc ?_ _)); exact BK193.out⟩, ⟨by repeat (first | (with_reducible first | exact HB.out | apply below_alloc | apply pw_below_drewN | apply below_drew1 | refine below_set ?_ GE188.out | refine below_set ?_ GE189.out | refine below_set ?_ GE193.out) | exact HB.out)⟩⟩
        · rw [if_neg c23] at H
          have c23b0 : decide (a2 < 0) = false := decide_eq_false c23
          clear c23
          by_cases c27 : 0 ≤ a1
          · rw [if_pos c27] at H
            have c27b0 : decide (0 ≤ a1) = true := decide_eq_true c27
            clear c27
            by_cases c28 : a1 < (t190.length : Int)
            · rw [if_pos c28] at H
              have c28b0 : decide (a1 < (t190.length : Int)) = true := decide_eq_true c28
              clear c28
              have H' := Aside0.mk H
              clear H
              have hnb29 := NB193_188.out
              have hnc29 := NB188_193.out
              have hnb30 := NB193_189.out
              have hnc30 := NB189_193.out
              have hcz31_0 : w13.cell? ⟨gb193, 0, none⟩ = some (.slice none 0 0) := (blk_cell BK193.out 0).trans rfl
              have hfz31_0 := blk_frozen BK193.out 0
              have p194 : 0 ≤ (a1 : Int) := of_decide_eq_true (by first | (with_reducible assumption) | assumption)
              have q194 : a1 < (t190.length : Int) := of_decide_eq_true (by first | (with_reducible assumption) | assumption)
              obtain ⟨ad194, A194_0, c194_0, e194, hx194_0, hl194_0, hi194_0⟩ := at_L3 (Kd.S_reads' HO192.out).2.2 a1 p194 q194
              cases e194
              have hn194_0 : ad194.block ≠ gb193 := Kd.own_blk (Kd.S_ne HO192.out BK193.out (by decide))
              have HR194_0 := Aside0.mk hi194_0
              have HC194_0 := Aside0.mk hl194_0
              clear hi194_0 hl194_0
              replace hx194_0 := (cell_far (p := ⟨gb193, 0, none⟩) (by first | (rw [add_block]; exact hn194_0) | (show (Addr.add _ _).block ≠ _; rw [add_block]; exact hn194_0) | exact hn194_0) (.slice (some ad194) t190.length co14)).trans hx194_0
              clear hn194_0
              replace p194 := eq_true p194
              replace q194 := eq_true q194
              go_wp2
              go_meet
              case rel => exact ⟨_, (decide (a2 ≥ ((rd_L3 t190 a1).length : Int))), (by first | rfl | (simp; done) | (simp [*]; done)), H', ⟨by first | omega | exact Nat.le_refl _⟩, ⟨by (with_reducible repeat (first | apply Kd.S_alloc | apply Kd.S_drewN | apply Kd.S_drew)); exact Kd.S_mono (Kd.S_far (p := ⟨gb193, 0, none⟩) (Kd.S_types HO192.out BK193.out (by decide)) (fun _ hk => hk.2) (.slice (some ad194) t190.length co14)) (fun _ hk => trivial)⟩, ⟨by (with_reducible repeat (first | refine blk_drewN ?_ _ | refine blk_drew ?_ | refine blk_alloc ?_ _)); refine blk_far ?_ NB188_193.out _; (with_reducible repeat (first | refine blk_drewN ?_ _ | refine blk_drew ?_ | refine blk_alloc ?_ _)); exact BK188.out⟩, ⟨by (with_reducible repeat (first | refine blk_drewN ?_ _ | refine blk_drew ?_ | refine blk_alloc ?_ _)); refine blk_far ?_ NB189_193.out _; (with_reducible repeat (first | refine blk_drewN ?_ _ | refine blk_drew ?_ | refine blk_alloc ?_ _)); exact BK189.out⟩, ⟨by (with_reducible repeat (first | refine blk_drewN ?_ _ | refine blk_drew ?_ | refine blk_alloc ?_ _)); refine blk_put (cs := #[.slice none 0 0]) ?_ 0 _ rfl; (with_reducible repeat (first | refine blk_drewN ?_ _ | refine blk_drew ?_ | refine blk_alloc ?_ _)); exact BK193.out⟩, ⟨by repeat (first | (with_reducible first | exact HB.out | apply below_alloc | apply pw_below_drewN | apply below_drew1 | refine below_set ?_ GE188.out | refine below_set ?_ GE189.out | refine below_set ?_ GE193.out) | exact HB.out)⟩⟩
            · rw [if_neg c28] at H
              exact absurd H (by simp)
          · rw [if_neg c27] at H
            exact absurd H (by simp)
  case rest =>
    clear HC7
    try clear c1
    try clear p1
    try clear q1
    try clear hx1
    try clear c2
    try clear p2
    try clear c3
    try clear c10
    try clear c15
    try clear c16
    try clear c18
    try clear c18b0
    try clear c19
    try clear c19b0
    try clear p19
    try clear q19
    try clear hx19
    try clear c20
    try clear c21
    try clear c23
    try clear c23b0
    try clear c24
    try clear c25
    try clear c27
    try clear c27b0
    try clear c28
    try clear c28b0
    try clear c29
    try clear c30
    try clear hcz11_0
    try clear hcz17_0
    try clear hcz22_0
    try clear hcz26_0
    try clear hcz31_0
    try clear hfz11_0
    try clear hfz17_0
    try clear hfz22_0
    try clear hfz26_0
    try clear hfz31_0
    try clear hx194_0
    try clear p194
    try clear q194
    obtain ⟨kq, x36_6, rfl, HA, HJ6, HO_194000, BK188, BK189, BK193, HB⟩ := hcut
    cases kq with
    | zero => exact absurd HA.out (by simp [portageref18_Note.j0])
    | succ kj6 =>
      have H := HA.out
      clear HA
      simp only [portageref18_Note.j0] at H
      by_cases c32 : x36_6 = true
      · subst c32
        have H1 : (some t190) = some r := by rw [if_pos rfl] at H; exact H
        clear H
        have H := H1
        clear H1
        obtain rfl := Option.some.inj H
        have hnb33 := NB193_188.out
        have hnc33 := NB188_193.out
        have hnb34 := NB193_189.out
        have hnc34 := NB189_193.out
        have hcz35_0 : wc.cell? ⟨gb193, 0, none⟩ = some (.slice Ao14 t190.length co14) := (blk_cell BK193.out 0).trans rfl
        have hfz35_0 := blk_frozen BK193.out 0
        have hnb36 := NB189_188.out
        have hnc36 := NB188_189.out
        have hcz37_0 : wc.cell? ⟨gb189, 0, none⟩ = some (.slice none 0 0) := (blk_cell BK189.out 0).trans rfl
        have hfz37_0 := blk_frozen BK189.out 0
        go_wp2
        refine bodyPost_ret (results_cell_row rfl _ _ gb189 24 #[.slice Ao14 t190.length co14] (0, 0) _ rfl (by (with_reducible repeat (first | refine blk_drewN ?_ _ | refine blk_drew ?_ | refine blk_alloc ?_ _)); refine blk_put (cs := #[.slice none 0 0]) ?_ 0 _ rfl; (with_reducible repeat (first | refine blk_drewN ?_ _ | refine blk_drew ?_ | refine blk_alloc ?_ _)); exact BK189.out) Try.underlying24 rfl (by kernel_rfl)) rfl ?_
        exact ⟨_, by first | rfl | (simp [errW_none, errW_some] <;> rfl) | (simp [*, errW_none, errW_some] <;> rfl), by (with_reducible repeat (first | apply Kd.S_alloc | apply Kd.S_drewN | apply Kd.S_drew)); exact Kd.S_mono (Kd.S_far (p := ⟨gb189, 0, none⟩) (Kd.S_types HO_194000.out BK189.out (by decide)) (fun _ hk => hk.2) (.slice Ao14 t190.length co14)) (fun _ hk => trivial), by repeat (first | (with_reducible first | exact HB.out | apply below_alloc | apply pw_below_drewN | apply below_drew1 | refine below_set ?_ GE188.out | refine below_set ?_ GE189.out | refine below_set ?_ GE193.out) | exact HB.out)⟩
      · replace c32 := Bool.eq_false_iff.mpr c32
        subst c32
        have H1 : (if 0 ≤ a1 then (if a1 < (t190.length : Int) then (if 0 ≤ a2 then (if a2 < ((rd_L3 t190 a1).length : Int) then ((portageref18_bit.f l3 0).bind fun t198 => ((portageref18_bit.f l3 1).bind fun t199 => ((portageref18_Spots.f kj6 ((rd_T28 (rd_L3 t190 a1) a2).f0) ((rd_T28 (rd_L3 t190 a1) a2).f1) ((rd_T28 (rd_L3 t190 a1) a2).f2) ((rd_T28 (rd_L3 t190 a1) a2).f3) 1 t198 t199 a4).bind fun bt200 => (some (t190.set (a1 : Int).toNat ((rd_L3 t190 a1).set (a2 : Int).toNat (⟨bt200.1, bt200.2.1, bt200.2.2.1, bt200.2.2.2⟩ : S28))))))) else (none)) else (none)) else (none)) else (none)) = some r := by rw [if_neg (show ¬ (false = true) by decide)] at H; exact H
        clear H
        have H := H1
        clear H1
        by_cases c38 : 0 ≤ a1
        · rw [if_pos c38] at H
          have c38b0 : decide (0 ≤ a1) = true := decide_eq_true c38
          clear c38
          by_cases c39 : a1 < (t190.length : Int)
          · rw [if_pos c39] at H
            have c39b0 : decide (a1 < (t190.length : Int)) = true := decide_eq_true c39
            clear c39
            by_cases c40 : 0 ≤ a2
            · rw [if_pos c40] at H
              have c40b0 : decide (0 ≤ a2) = true := decide_eq_true c40
              clear c40
              by_cases c41 : a2 < ((rd_L3 t190 a1).length : Int)
              · rw [if_pos c41] at H
                have c41b0 : decide (a2 < ((rd_L3 t190 a1).length : Int)) = true := decide_eq_true c41
                clear c41
                replace H := Option.bind_eq_some_iff.mp H
                obtain ⟨t198, A420, H⟩ := H
                replace H : ((portageref18_bit.f l3 1).bind fun t199 => ((portageref18_Spots.f kj6 ((rd_T28 (rd_L3 t190 a1) a2).f0) ((rd_T28 (rd_L3 t190 a1) a2).f1) ((rd_T28 (rd_L3 t190 a1) a2).f2) ((rd_T28 (rd_L3 t190 a1) a2).f3) 1 t198 t199 a4).bind fun bt200 => (some (t190.set (a1 : Int).toNat ((rd_L3 t190 a1).set (a2 : Int).toNat (⟨bt200.1, bt200.2.1, bt200.2.2.1, bt200.2.2.2⟩ : S28)))))) = some r := H
                have A42 := Aside0.mk A420
                clear A420
                replace H := Option.bind_eq_some_iff.mp H
                obtain ⟨t199, A430, H⟩ := H
                replace H : ((portageref18_Spots.f kj6 ((rd_T28 (rd_L3 t190 a1) a2).f0) ((rd_T28 (rd_L3 t190 a1) a2).f1) ((rd_T28 (rd_L3 t190 a1) a2).f2) ((rd_T28 (rd_L3 t190 a1) a2).f3) 1 t198 t199 a4).bind fun bt200 => (some (t190.set (a1 : Int).toNat ((rd_L3 t190 a1).set (a2 : Int).toNat (⟨bt200.1, bt200.2.1, bt200.2.2.1, bt200.2.2.2⟩ : S28))))) = some r := H
                have A43 := Aside0.mk A430
                clear A430
                replace H := Option.bind_eq_some_iff.mp H
                obtain ⟨⟨t200, t201, t202, t203⟩, A440, H⟩ := H
                replace H : (some (t190.set (a1 : Int).toNat ((rd_L3 t190 a1).set (a2 : Int).toNat (⟨t200, t201, t202, t203⟩ : S28)))) = some r := H
                have A44 := Aside0.mk A440
                clear A440
                obtain ⟨y204, hy204⟩ : ∃ y_ : List (S28), y_ = ((rd_L3 t190 a1).set (a2 : Int).toNat (⟨t200, t201, t202, t203⟩ : S28)) := ⟨_, rfl⟩
                replace H : (some (t190.set (a1 : Int).toNat y204)) = some r := by first | (rw [hy204]; with_reducible exact H) | (have H2_ := (Option.bind_some _ _).symm.trans H; rw [hy204]; with_reducible exact H2_) | (have H2_ := (Option.bind_some _ _).symm.trans H; with_reducible exact H2_) | with_reducible exact H | (rw [hy204]; exact H) | exact H
                have Ny204 := Aside0.mk hy204
                clear hy204
                obtain ⟨y206, hy206⟩ : ∃ y_ : List (List (S28)), y_ = (t190.set (a1 : Int).toNat y204) := ⟨_, rfl⟩
                replace H : (some y206) = some r := by first | (rw [hy206]; with_reducible exact H) | (have H2_ := (Option.bind_some _ _).symm.trans H; rw [hy206]; with_reducible exact H2_) | (have H2_ := (Option.bind_some _ _).symm.trans H; with_reducible exact H2_) | with_reducible exact H | (rw [hy206]; exact H) | exact H
                have Ny206 := Aside0.mk hy206
                clear hy206
                obtain rfl := Option.some.inj H
                try go_wp2
                have n0_ := Aside0.mk (Kd.S_drew HO_194000.out)
                have n1_ := Aside0.mk (blk_drew BK188.out)
                have n2_ := Aside0.mk (blk_drew BK189.out)
                have n3_ := Aside0.mk (blk_drew BK193.out)
                have n4_ := Aside0.mk (below_drew1 HB.out)
                clear HO_194000
                clear BK188
                clear BK189
                clear BK193
                clear HB
                have HO_194000 := n0_
                have BK188 := n1_
                have BK189 := n2_
                have BK193 := n3_
                have HB := n4_
                clear n0_ n1_ n2_ n3_ n4_
                have p195 : 0 ≤ (a1 : Int) := of_decide_eq_true (by first | (with_reducible assumption) | assumption)
                have q195 : a1 < (t190.length : Int) := of_decide_eq_true (by first | (with_reducible assumption) | assumption)
                obtain ⟨ad195, A195_0, c195_0, e195, hx195_0, hl195_0, hi195_0⟩ := at_L3 (Kd.S_reads' HO_194000.out).2.2 a1 p195 q195
                cases e195
                obtain ⟨ce195, hce195, hMe195, hcc195⟩ := Kd.S_get HO_194000.out [] a1 p195 (by first | exact q195 | exact of_decide_eq_true (by first | (with_reducible assumption) | assumption) | (have e_ := (Kd.S_reads' HO_194000.out).1; omega))
                obtain ⟨ve195_0, rfl, ge195_0⟩ := hMe195
                have hv195_0 := hcc195 0 _ rfl
                rw [Nat.add_zero, show ((Kd.slice 28 k28)).sz = 1 from rfl, Nat.mul_one] at hv195_0
                replace hv195_0 := Option.some.inj (hv195_0.symm.trans hx195_0)
                rw [hv195_0] at ge195_0
                have HL195_0 := Aside0.mk (show Kd.R k28 28 _ _ _ _ (rd_L3 t190 a1) from ge195_0)
                clear hv195_0 ge195_0
                have HX195_0 := Aside0.mk hx195_0
                clear hcc195 hce195
                have HR195_0 := Aside0.mk hi195_0
                have HC195_0 := Aside0.mk hl195_0
                clear hi195_0 hl195_0
                replace p195 := eq_true p195
                replace q195 := eq_true q195
                have p196 : 0 ≤ (a1 : Int) := of_decide_eq_true (by first | (with_reducible assumption) | assumption)
                have q196 : a1 < (t190.length : Int) := of_decide_eq_true (by first | (with_reducible assumption) | assumption)
                obtain ⟨ad196, A196_0, c196_0, e196, hx196_0, hl196_0, hi196_0⟩ := at_L3 (Kd.S_reads' HO_194000.out).2.2 a1 p196 q196
                obtain rfl : ad195 = ad196 := (by injection e196)
                obtain ⟨ce196, hce196, hMe196, hcc196⟩ := Kd.S_get HO_194000.out [] a1 p196 (by first | exact q196 | exact of_decide_eq_true (by first | (with_reducible assumption) | assumption) | (have e_ := (Kd.S_reads' HO_194000.out).1; omega))
                obtain ⟨ve196_0, rfl, ge196_0⟩ := hMe196
                have hv196_0 := hcc196 0 _ rfl
                rw [Nat.add_zero, show ((Kd.slice 28 k28)).sz = 1 from rfl, Nat.mul_one] at hv196_0
                replace hv196_0 := Option.some.inj (hv196_0.symm.trans hx196_0)
                rw [hv196_0] at ge196_0
                have HL196_0 := Aside0.mk (show Kd.R k28 28 _ _ _ _ (rd_L3 t190 a1) from ge196_0)
                clear hv196_0 ge196_0
                have HX196_0 := Aside0.mk hx196_0
                clear hcc196 hce196
                have HR196_0 := Aside0.mk hi196_0
                have HC196_0 := Aside0.mk hl196_0
                clear hi196_0 hl196_0
                replace p196 := eq_true p196
                replace q196 := eq_true q196
                have ea_ := Option.some.inj (hx195_0.symm.trans hx196_0)
                injection ea_ with ea_ en_ ec_
                subst ea_
                subst ec_
                clear en_
                have p197 : 0 ≤ (a2 : Int) := of_decide_eq_true (by first | (with_reducible assumption) | assumption)
                have q197 : a2 < ((rd_L3 t190 a1).length : Int) := of_decide_eq_true (by first | (with_reducible assumption) | assumption)
                obtain ⟨ad197, e197, hx197_0, hx197_1, hx197_2, hx197_3⟩ := at_T28 (by repeat (first | (with_reducible exact HR196_0.out) | (with_reducible refine Kd.C_alloc ?_ _) | (with_reducible refine Kd.C_drewN ?_ _) | (with_reducible refine Kd.C_drew ?_) | exact HR196_0.out)) a2 p197 q197
                cases e197
                replace p197 := eq_true p197
                replace q197 := eq_true q197
                refine start_ (n := 23) (S := fun w' => w'.cell? ⟨gb193, 0, none⟩ = some (.slice (some ad195) t190.length co14) ∧ w'.cell? (ad195.add (a1).toNat) = some (.slice (some ad197) (rd_L3 t190 a1).length c195_0) ∧ w'.cell? (ad195.add (a1).toNat) = some (.slice (some ad197) (rd_L3 t190 a1).length c195_0) ∧ w'.cell? (ad197.add ((a2).toNat * 4)) = some (.int .i64 ((rd_T28 (rd_L3 t190 a1) a2).f0)) ∧ w'.cell? ⟨(ad197.add ((a2).toNat * 4)).block, (ad197.add ((a2).toNat * 4)).off + 1, none⟩ = some (.int .u16 ((rd_T28 (rd_L3 t190 a1) a2).f1)) ∧ w'.cell? ⟨(ad197.add ((a2).toNat * 4)).block, (ad197.add ((a2).toNat * 4)).off + 2, none⟩ = some (.int .u16 ((rd_T28 (rd_L3 t190 a1) a2).f2)) ∧ w'.cell? ⟨(ad197.add ((a2).toNat * 4)).block, (ad197.add ((a2).toNat * 4)).off + 3, none⟩ = some (.int .i64 ((rd_T28 (rd_L3 t190 a1) a2).f3))) (ds := [22]) #[false, false, false, false, false, false, false, false, false, false, false, false, false, false, false, false, false, false, false, false, false, false, false] (by kernel_rfl) rfl rfl ⟨(blk_cell BK193.out 0).trans rfl, hx195_0, hx196_0, hx197_0, hx197_1, hx197_2, hx197_3⟩ (fun hHeld => ?_); refine with_tabW portageref18_Note.tab4 portageref18_Note.bits4 (fun HT_ HW_ => ?_)
                generalize wc.drew = w46 at HO_194000 BK188 BK189 BK193 HB HL195_0 HL196_0 HR195_0 HR196_0 HX195_0 HX196_0 hx195_0 hx196_0 hx197_0 hx197_1 hx197_2 hx197_3 hHeld ⊢
                refine pure_ (i := 0) (N := some 38) (v := ?_) (a' := ?_) #[true, false, false, false, false, false, false, false, false, false, false, false, false, false, false, false, false, false, false, false, false, false, false] rfl rfl (any_of HT_.out (by kernel_rfl)) (fun _ _ _ h => h) (Or.inl ⟨by rfl, ?_⟩) ?_ ?_
                rotate_left
                · intro w'
                  go_simp
                  with_reducible rfl
                rotate_left
                · simp only [Act.put, List.setIfInBounds_toArray, List.set_cons_zero, List.set_cons_succ, i64_w, i32_w]
                  rfl
                refine pure_ (i := 2) (N := some 40) (v := ?_) (a' := ?_) #[true, false, true, false, false, false, false, false, false, false, false, false, false, false, false, false, false, false, false, false, false, false, false] rfl rfl (any_of HT_.out (by kernel_rfl)) (fun _ _ _ h => h) (Or.inl ⟨by rfl, ?_⟩) ?_ ?_
                rotate_left
                · intro w'
                  go_simp
                  with_reducible rfl
                rotate_left
                · simp only [Act.put, List.setIfInBounds_toArray, List.set_cons_zero, List.set_cons_succ, i64_w, i32_w]
                  rfl
                refine pure_ (i := 5) (N := some 43) (v := ?_) (a' := ?_) #[true, false, true, false, false, true, false, false, false, false, false, false, false, false, false, false, false, false, false, false, false, false, false] rfl rfl (any_of HT_.out (by kernel_rfl)) (fun _ _ _ h => h) (Or.inl ⟨by rfl, ?_⟩) ?_ ?_
                rotate_left
                · intro w'
                  go_simp
                  with_reducible rfl
                rotate_left
                · simp only [Act.put, List.setIfInBounds_toArray, List.set_cons_zero, List.set_cons_succ, i64_w, i32_w]
                  rfl
                refine pure_ (i := 6) (N := some 44) (v := ?_) (a' := ?_) #[true, false, true, false, false, true, true, false, false, false, false, false, false, false, false, false, false, false, false, false, false, false, false] rfl rfl (any_of HT_.out (by kernel_rfl)) (fun _ _ _ h => h) (Or.inl ⟨by rfl, ?_⟩) ?_ ?_
                rotate_left
                · intro w'
                  go_simp
                  with_reducible rfl
                rotate_left
                · simp only [Act.put, List.setIfInBounds_toArray, List.set_cons_zero, List.set_cons_succ, i64_w, i32_w]
                  rfl
                refine pure_ (i := 8) (N := some 46) (v := ?_) (a' := ?_) #[true, false, true, false, false, true, true, false, true, false, false, false, false, false, false, false, false, false, false, false, false, false, false] rfl rfl (any_of HT_.out (by kernel_rfl)) (fun _ _ _ h => h) (Or.inl ⟨by rfl, ?_⟩) ?_ ?_
                rotate_left
                · intro w'
                  go_simp
                  with_reducible rfl
                rotate_left
                · simp only [Act.put, List.setIfInBounds_toArray, List.set_cons_zero, List.set_cons_succ, i64_w, i32_w]
                  rfl
                refine pure_ (i := 11) (N := some 49) (v := ?_) (a' := ?_) #[true, false, true, false, false, true, true, false, true, false, false, true, false, false, false, false, false, false, false, false, false, false, false] rfl rfl (any_of HT_.out (by kernel_rfl)) (fun _ _ _ h => h) (Or.inl ⟨by rfl, ?_⟩) ?_ ?_
                rotate_left
                · intro w'
                  go_simp
                  with_reducible rfl
                rotate_left
                · simp only [Act.put, List.setIfInBounds_toArray, List.set_cons_zero, List.set_cons_succ, i64_w, i32_w]
                  rfl
                refine pure_ (i := 14) (N := some 52) (v := ?_) (a' := ?_) #[true, false, true, false, false, true, true, false, true, false, false, true, false, false, true, false, false, false, false, false, false, false, false] rfl rfl (any_of HT_.out (by kernel_rfl)) (fun _ _ _ h => h) (Or.inl ⟨by rfl, ?_⟩) ?_ ?_
                rotate_left
                · intro w'
                  go_simp
                  with_reducible rfl
                rotate_left
                · simp only [Act.put, List.setIfInBounds_toArray, List.set_cons_zero, List.set_cons_succ, i64_w, i32_w]
                  rfl
                refine pure_ (i := 16) (N := some 54) (v := ?_) (a' := ?_) #[true, false, true, false, false, true, true, false, true, false, false, true, false, false, true, false, true, false, false, false, false, false, false] rfl rfl (any_of HT_.out (by kernel_rfl)) (fun _ _ _ h => h) (Or.inl ⟨by rfl, ?_⟩) ?_ ?_
                rotate_left
                · intro w'
                  go_simp
                  with_reducible rfl
                rotate_left
                · simp only [Act.put, List.setIfInBounds_toArray, List.set_cons_zero, List.set_cons_succ, i64_w, i32_w]
                  rfl
                refine pure_ (i := 18) (N := some 56) (v := ?_) (a' := ?_) #[true, false, true, false, false, true, true, false, true, false, false, true, false, false, true, false, true, false, true, false, false, false, false] rfl rfl (any_of HT_.out (by kernel_rfl)) (fun _ _ _ h => h) (Or.inl ⟨by rfl, ?_⟩) ?_ ?_
                rotate_left
                · intro w'
                  go_simp
                  with_reducible rfl
                rotate_left
                · simp only [Act.put, List.setIfInBounds_toArray, List.set_cons_zero, List.set_cons_succ, i64_w, i32_w]
                  rfl
                refine take_ (i := 1) (N := some 39) (v := ?_) (a' := ?_) #[true, true, true, false, false, true, true, false, true, false, false, true, false, false, true, false, true, false, true, false, false, false, false] rfl rfl (take_ofW HT_.out HW_.out (by kernel_rfl)) (fun _ _ _ h => h) (Or.inl ⟨by rfl, ?_⟩) hHeld ?_ ?_
                rotate_left
                · rintro w' ⟨s0, s1, s2, s3, s4, s5, s6⟩
                  go_simp
                  with_reducible rfl
                rotate_left
                · simp only [Act.put, List.setIfInBounds_toArray, List.set_cons_zero, List.set_cons_succ, i64_w, i32_w]
                  rfl
                refine pure_ (i := 3) (N := some 41) (v := ?_) (a' := ?_) #[true, true, true, true, false, true, true, false, true, false, false, true, false, false, true, false, true, false, true, false, false, false, false] rfl rfl (any_of HT_.out (by kernel_rfl)) (fun _ _ _ h => h) (Or.inl ⟨by rfl, ?_⟩) ?_ ?_
                rotate_left
                · intro w'
                  go_simp
                  with_reducible rfl
                rotate_left
                · simp only [Act.put, List.setIfInBounds_toArray, List.set_cons_zero, List.set_cons_succ, i64_w, i32_w]
                  rfl
                refine take_ (i := 4) (N := some 42) (v := ?_) (a' := ?_) #[true, true, true, true, true, true, true, false, true, false, false, true, false, false, true, false, true, false, true, false, false, false, false] rfl rfl (take_ofW HT_.out HW_.out (by kernel_rfl)) (fun _ _ _ h => h) (Or.inl ⟨by rfl, ?_⟩) hHeld ?_ ?_
                rotate_left
                · rintro w' ⟨s0, s1, s2, s3, s4, s5, s6⟩
                  go_simp
                  with_reducible rfl
                rotate_left
                · simp only [Act.put, List.setIfInBounds_toArray, List.set_cons_zero, List.set_cons_succ, i64_w, i32_w]
                  rfl
                refine take_ (i := 7) (N := some 45) (v := ?_) (a' := ?_) #[true, true, true, true, true, true, true, true, true, false, false, true, false, false, true, false, true, false, true, false, false, false, false] rfl rfl (take_ofW HT_.out HW_.out (by kernel_rfl)) (fun _ _ _ h => h) (Or.inl ⟨by rfl, ?_⟩) hHeld ?_ ?_
                rotate_left
                · rintro w' ⟨s0, s1, s2, s3, s4, s5, s6⟩
                  go_simp
                  with_reducible rfl
                rotate_left
                · simp only [Act.put, List.setIfInBounds_toArray, List.set_cons_zero, List.set_cons_succ, i64_w, i32_w]
                  rfl
                refine pure_ (i := 9) (N := some 47) (v := ?_) (a' := ?_) #[true, true, true, true, true, true, true, true, true, true, false, true, false, false, true, false, true, false, true, false, false, false, false] rfl rfl (any_of HT_.out (by kernel_rfl)) (fun _ _ _ h => h) (Or.inl ⟨by rfl, ?_⟩) ?_ ?_
                rotate_left
                · intro w'
                  go_simp
                  with_reducible rfl
                rotate_left
                · simp only [Act.put, List.setIfInBounds_toArray, List.set_cons_zero, List.set_cons_succ, i64_w, i32_w]
                  rfl
                refine take_ (i := 10) (N := some 48) (v := ?_) (a' := ?_) #[true, true, true, true, true, true, true, true, true, true, true, true, false, false, true, false, true, false, true, false, false, false, false] rfl rfl (take_ofW HT_.out HW_.out (by kernel_rfl)) (fun _ _ _ h => h) (Or.inl ⟨by rfl, ?_⟩) hHeld ?_ ?_
                rotate_left
                · rintro w' ⟨s0, s1, s2, s3, s4, s5, s6⟩
                  go_simp
                  with_reducible rfl
                rotate_left
                · simp only [Act.put, List.setIfInBounds_toArray, List.set_cons_zero, List.set_cons_succ, i64_w, i32_w]
                  rfl
                refine pure_ (i := 12) (N := some 50) (v := ?_) (a' := ?_) #[true, true, true, true, true, true, true, true, true, true, true, true, true, false, true, false, true, false, true, false, false, false, false] rfl rfl (any_of HT_.out (by kernel_rfl)) (fun _ _ _ h => h) (Or.inl ⟨by rfl, ?_⟩) ?_ ?_
                rotate_left
                · intro w'
                  go_simp
                  with_reducible rfl
                rotate_left
                · simp only [Act.put, List.setIfInBounds_toArray, List.set_cons_zero, List.set_cons_succ, i64_w, i32_w]
                  rfl
                refine take_ (i := 13) (N := some 51) (v := ?_) (a' := ?_) #[true, true, true, true, true, true, true, true, true, true, true, true, true, true, true, false, true, false, true, false, false, false, false] rfl rfl (take_ofW HT_.out HW_.out (by kernel_rfl)) (fun _ _ _ h => h) (Or.inl ⟨by rfl, ?_⟩) hHeld ?_ ?_
                rotate_left
                · rintro w' ⟨s0, s1, s2, s3, s4, s5, s6⟩
                  go_simp
                  with_reducible rfl
                rotate_left
                · simp only [Act.put, List.setIfInBounds_toArray, List.set_cons_zero, List.set_cons_succ, i64_w, i32_w]
                  rfl
                refine one_ (i := 15) (N := some 53) #[true, true, true, true, true, true, true, true, true, true, true, true, true, true, true, true, true, false, true, false, false, false, false] rfl rfl (one_of HT_.out (by kernel_rfl)) (by decide) (fun K hK => ?_)
                refine goes_ Try.func72 (by kernel_rfl) rfl #[.slice A3 l3.length c3, .int .i64 0] (by rfl) rfl rfl (by (try simp only [List.map_toArray, List.map_cons, List.map_nil]); first | done | rfl | (simp only [List.length_drop, List.length_take]; rfl)) ?_
                with_reducible refine (portageref18_bit.calls _ _ l3 0 t198 _ ?side1 ?side2 A42.out).mono ?_
                (case side1 => repeat (first | exact (Kd.C_below HR3.out HB.out) | (with_reducible refine Kd.C_alloc ?_ _) | (with_reducible refine Kd.C_drewN ?_ _) | (with_reducible refine Kd.C_drew ?_)))
                (case side2 => exact HC3.out)
                rintro e w' ⟨rfl, ⟨nd, rfl⟩⟩
                refine ⟨_, rfl, ?_⟩
                refine hK.out _ _ ⟨(blk_cell BK193.out 0).trans rfl, hHeld.2.1, hHeld.2.2.1, hHeld.2.2.2.1, hHeld.2.2.2.2.1, hHeld.2.2.2.2.2.1, hHeld.2.2.2.2.2.2⟩ (fun hHeld => ?_)
                clear hK K
                refine norm_ (a' := ?_) ?_ ?_
                rotate_left
                · show Act.put _ (some 53) _ = _
                  simp only [Act.put, List.setIfInBounds_toArray, List.set_cons_zero, List.set_cons_succ, i64_w, i32_w]
                  rfl
                refine one_ (i := 17) (N := some 55) #[true, true, true, true, true, true, true, true, true, true, true, true, true, true, true, true, true, true, true, false, false, false, false] rfl rfl (one_of HT_.out (by kernel_rfl)) (by decide) (fun K hK => ?_)
                refine goes_ Try.func72 (by kernel_rfl) rfl #[.slice A3 l3.length c3, .int .i64 1] (by rfl) rfl rfl (by (try simp only [List.map_toArray, List.map_cons, List.map_nil]); first | done | rfl | (simp only [List.length_drop, List.length_take]; rfl)) ?_
                with_reducible refine (portageref18_bit.calls _ _ l3 1 t199 _ ?side1 ?side2 A43.out).mono ?_
                (case side1 => repeat (first | exact (Kd.C_below HR3.out (by repeat (first | (with_reducible first | exact HB.out | apply below_alloc | apply pw_below_drewN | apply below_drew1 | refine below_set ?_ GE188.out | refine below_set ?_ GE189.out | refine below_set ?_ GE193.out) | exact HB.out))) | (with_reducible refine Kd.C_alloc ?_ _) | (with_reducible refine Kd.C_drewN ?_ _) | (with_reducible refine Kd.C_drew ?_)))
                (case side2 => exact HC3.out)
                rintro e w' ⟨rfl, ⟨nd, rfl⟩⟩
                refine ⟨_, rfl, ?_⟩
                refine hK.out _ _ ⟨(blk_cell BK193.out 0).trans rfl, hHeld.2.1, hHeld.2.2.1, hHeld.2.2.2.1, hHeld.2.2.2.2.1, hHeld.2.2.2.2.2.1, hHeld.2.2.2.2.2.2⟩ (fun hHeld => ?_)
                clear hK K
                refine norm_ (a' := ?_) ?_ ?_
                rotate_left
                · show Act.put _ (some 55) _ = _
                  simp only [Act.put, List.setIfInBounds_toArray, List.set_cons_zero, List.set_cons_succ, i64_w, i32_w]
                  rfl
                refine pure_ (i := 19) (N := some 57) (v := ?_) (a' := ?_) #[true, true, true, true, true, true, true, true, true, true, true, true, true, true, true, true, true, true, true, true, false, false, false] rfl rfl (any_of HT_.out (by kernel_rfl)) (fun _ _ _ h => h) (Or.inl ⟨by rfl, ?_⟩) ?_ ?_
                rotate_left
                · intro w'
                  go_simp
                  with_reducible rfl
                rotate_left
                · simp only [Act.put, List.setIfInBounds_toArray, List.set_cons_zero, List.set_cons_succ, i64_w, i32_w]
                  rfl
                refine one_ (i := 20) (N := some 58) #[true, true, true, true, true, true, true, true, true, true, true, true, true, true, true, true, true, true, true, true, true, false, false] rfl rfl (one_of HT_.out (by kernel_rfl)) (by decide) (fun K hK => ?_)
                refine goes_ Try.func71 (by kernel_rfl) rfl #[.agg #[.int .i64 ((rd_T28 (rd_L3 t190 a1) a2).f0), .int .u16 ((rd_T28 (rd_L3 t190 a1) a2).f1), .int .u16 ((rd_T28 (rd_L3 t190 a1) a2).f2), .int .i64 ((rd_T28 (rd_L3 t190 a1) a2).f3)], .agg #[.int .i64 1, .int .u16 t198, .int .u16 t199, .int .i64 a4]] (by rfl) rfl rfl (by (try simp only [List.map_toArray, List.map_cons, List.map_nil]); first | done | rfl | (simp only [List.length_drop, List.length_take]; rfl)) ?_
                with_reducible refine (portageref18_Spots.calls kj6 ((rd_T28 (rd_L3 t190 a1) a2).f0) ((rd_T28 (rd_L3 t190 a1) a2).f1) ((rd_T28 (rd_L3 t190 a1) a2).f2) ((rd_T28 (rd_L3 t190 a1) a2).f3) 1 t198 t199 a4 t200 t201 t202 t203 _ A44.out).mono ?_
                rintro e w47 ⟨rfl, hb⟩
                have HS1_ := (hb.cell (World.block_lt_of_cell? _ _ (hHeld.2.1))).trans (hHeld.2.1)
                have HS2_ := (hb.cell (World.block_lt_of_cell? _ _ (hHeld.2.2.1))).trans (hHeld.2.2.1)
                have HS3_ := (hb.cell (World.block_lt_of_cell? _ _ (hHeld.2.2.2.1))).trans (hHeld.2.2.2.1)
                have HS4_ := (hb.cell (World.block_lt_of_cell? _ _ (hHeld.2.2.2.2.1))).trans (hHeld.2.2.2.2.1)
                have HS5_ := (hb.cell (World.block_lt_of_cell? _ _ (hHeld.2.2.2.2.2.1))).trans (hHeld.2.2.2.2.2.1)
                have HS6_ := (hb.cell (World.block_lt_of_cell? _ _ (hHeld.2.2.2.2.2.2))).trans (hHeld.2.2.2.2.2.2)
                refine ⟨_, rfl, ?_⟩
                have n0_ := Aside0.mk (Kd.S_below (by (with_reducible repeat (first | apply Kd.S_alloc | apply Kd.S_drewN | apply Kd.S_drew)); exact HO_194000.out) hb)
                have n1_ := Aside0.mk (Kd.R_below (by (with_reducible repeat (first | apply Kd.R_alloc | apply Kd.R_drewN | apply Kd.R_drew)); exact HL195_0.out) hb)
                have n2_ := Aside0.mk (Kd.R_below (by (with_reducible repeat (first | apply Kd.R_alloc | apply Kd.R_drewN | apply Kd.R_drew)); exact HL196_0.out) hb)
                have n3_ := Aside0.mk (blk_below (g := gb188) (o := .cells #[.slice A0_0 l0_0.length c0_0] 24 (0, 0)) (by (with_reducible repeat (first | refine blk_drewN ?_ _ | refine blk_drew ?_ | refine blk_alloc ?_ _)); exact BK188.out) hb)
                have n4_ := Aside0.mk (blk_below (g := gb189) (o := .cells #[.slice none 0 0] 24 (0, 0)) (by (with_reducible repeat (first | refine blk_drewN ?_ _ | refine blk_drew ?_ | refine blk_alloc ?_ _)); exact BK189.out) hb)
                have n5_ := Aside0.mk (blk_below (g := gb193) (o := .cells #[.slice (some ad195) t190.length co14] 24 (0, 0)) (by (with_reducible repeat (first | refine blk_drewN ?_ _ | refine blk_drew ?_ | refine blk_alloc ?_ _)); exact BK193.out) hb)
                have n6_ := Aside0.mk (Kd.C_below (by repeat (first | (with_reducible exact HR195_0.out) | (with_reducible refine Kd.C_alloc ?_ _) | (with_reducible refine Kd.C_drewN ?_ _) | (with_reducible refine Kd.C_drew ?_) | exact HR195_0.out)) hb)
                have n7_ := Aside0.mk (pw_cell_below hb HX195_0.out)
                have n8_ := Aside0.mk (Kd.C_below (by repeat (first | (with_reducible exact HR196_0.out) | (with_reducible refine Kd.C_alloc ?_ _) | (with_reducible refine Kd.C_drewN ?_ _) | (with_reducible refine Kd.C_drew ?_) | exact HR196_0.out)) hb)
                have n9_ := Aside0.mk (pw_cell_below hb HX196_0.out)
                have n10_ := Aside0.mk (below_step (by repeat (first | (with_reducible first | exact HB.out | apply below_alloc | apply pw_below_drewN | apply below_drew1 | refine below_set ?_ GE188.out | refine below_set ?_ GE189.out | refine below_set ?_ GE193.out) | exact HB.out)) hb)
                clear HO_194000
                clear HL195_0
                clear HL196_0
                clear BK188
                clear BK189
                clear BK193
                clear HR195_0
                clear HX195_0
                clear HR196_0
                clear HX196_0
                clear HB
                have HO_194000 := n0_
                have HL195_0 := n1_
                have HL196_0 := n2_
                have BK188 := n3_
                have BK189 := n4_
                have BK193 := n5_
                have HR195_0 := n6_
                have HX195_0 := n7_
                have HR196_0 := n8_
                have HX196_0 := n9_
                have HB := n10_
                clear n0_ n1_ n2_ n3_ n4_ n5_ n6_ n7_ n8_ n9_ n10_
                (try clear hb)
                (try clear hb2)
                (try clear hk)
                (try clear hi)
                have p45 : 0 ≤ (a2 : Int) := of_decide_eq_true (by first | (with_reducible assumption) | assumption)
                have q45 : (a2 : Int) < (((rd_L3 t190 a1).length : Int) : Int) := of_decide_eq_true (by first | (with_reducible assumption) | assumption)
                obtain ⟨go45, co45, eo45, gb45, gl45, cl45, HG45⟩ := Kd.R_form HL195_0.out (by omega)
                (first | cases eo45 | (injection eo45 with ea_ en_ ec_; (first | subst ea_ | (injection ea_ with ea_; subst ea_)); subst ec_; clear en_))
                have GB45 := Aside0.mk gb45
                have GG45 := Aside0.mk HG45
                clear gb45 gl45 HG45
                (first | simp only [add_plain] at hx197_0 | skip)
                (first | simp only [add_plain] at hx197_1 | skip)
                (first | simp only [add_plain] at hx197_2 | skip)
                (first | simp only [add_plain] at hx197_3 | skip)
                obtain ⟨ce45, hcl45, hM45, hcc45, hfr45⟩ := Kd.R_elem HL195_0.out z28 (a2 : Int) p45 q45
                obtain rfl := k28_openM hM45
                have hx45_0 : World.cell? _ ⟨go45, (a2 : Int).toNat * 4, none⟩ = some (.int .i64 ((rd_T28 (rd_L3 t190 a1) a2).f0)) := hcc45 0 _ rfl
                have hx45_1 : World.cell? _ ⟨go45, (a2 : Int).toNat * 4 + 1, none⟩ = some (.int .u16 ((rd_T28 (rd_L3 t190 a1) a2).f1)) := hcc45 1 _ rfl
                have hx45_2 : World.cell? _ ⟨go45, (a2 : Int).toNat * 4 + 2, none⟩ = some (.int .u16 ((rd_T28 (rd_L3 t190 a1) a2).f2)) := hcc45 2 _ rfl
                have hx45_3 : World.cell? _ ⟨go45, (a2 : Int).toNat * 4 + 3, none⟩ = some (.int .i64 ((rd_T28 (rd_L3 t190 a1) a2).f3)) := hcc45 3 _ rfl
                have hf45_0 : World.frozen? _ ⟨go45, (a2 : Int).toNat * 4, none⟩ = false := hfr45 0
                have hf45_1 : World.frozen? _ ⟨go45, (a2 : Int).toNat * 4 + 1, none⟩ = false := hfr45 1
                have hf45_2 : World.frozen? _ ⟨go45, (a2 : Int).toNat * 4 + 2, none⟩ = false := hfr45 2
                have hf45_3 : World.frozen? _ ⟨go45, (a2 : Int).toNat * 4 + 3, none⟩ = false := hfr45 3
                clear hcl45 hcc45 hfr45 hM45
                replace p45 := eq_true p45
                replace q45 := eq_true q45
                have hq48 : (a1 : Int) < (t190.length : Int) := (by have h_ : (a1 : Int) < ((t190.length : Int) : Int) := of_decide_eq_true (by first | (with_reducible assumption) | assumption); first | exact h_ | (have e_ := (Kd.S_reads' HO_194000.out).1; omega) | simpa only [List.length_set, List.length_set] using h_)
                obtain ⟨oki48, ce48, hcl48, hM48, hcc48, hok48, hbk48⟩ := Kd.S_borrow HO_194000.out [] (a1 : Int) (of_decide_eq_true (by first | (with_reducible assumption) | assumption)) hq48
                obtain ⟨ve48_0, rfl, ge48_0⟩ := hM48
                have hv48 := hcc48 0 _ rfl
                rw [Nat.add_zero, show ((Kd.slice 28 k28)).sz = 1 from rfl, Nat.mul_one] at hv48
                replace hv48 := Option.some.inj (hv48.symm.trans HX195_0.out)
                subst hv48
                clear hcc48 hcl48
                replace ge48_0 := (show Kd.R k28 28 _ _ _ _ (rd_L3 t190 a1) from ge48_0)
                obtain ⟨cf48, hcl48, hN48, hcc48, hfr48⟩ := Kd.R_elem ge48_0 z28 (a2 : Int) (of_decide_eq_true (by first | (with_reducible assumption) | assumption)) (by have h_ : (a2 : Int) < (((rd_L3 t190 a1).length : Int) : Int) := of_decide_eq_true (by first | (with_reducible assumption) | assumption); first | exact h_ | (have e_ := (Kd.R_reads' HR195_0.out).1; omega) | simpa using h_)
                obtain rfl := k28_openM hN48
                have HP48 := Kd.R_seg ge48_0 (a2 : Int) (of_decide_eq_true (by first | (with_reducible assumption) | assumption)) (by have h_ : (a2 : Int) < (((rd_L3 t190 a1).length : Int) : Int) := of_decide_eq_true (by first | (with_reducible assumption) | assumption); first | exact h_ | (have e_ := (Kd.R_reads' HR195_0.out).1; omega) | simpa using h_) (seg := [.int .i64 t200, .int .u16 t201, .int .u16 t202, .int .i64 t203]) (j := 0) hcl48 hcc48 (show 4 ≤ 4 from by decide) (x' := (⟨t200, t201, t202, t203⟩ : S28)) (k28_mkM _ _ _ (⟨t200, t201, t202, t203⟩ : S28)) (fun _ hk => hk)
                clear hcl48 hcc48 hfr48 hN48
                rw [← Ny204.out] at HP48
                have HS48 := hbk48 HP48.2 (fun k_ e_ => by injection e_ with e_; subst e_; exact ge48_0.1 _ rfl) (x' := y204) (Kd.M_row HP48.1)
                rw [← Ny206.out] at HS48
                have HQ48 := Aside0.mk HS48
                clear HP48 HS48 hbk48 hok48
                refine hK.out _ _ ⟨(blk_cell BK193.out 0).trans rfl, HS1_, HS2_, HS3_, HS4_, HS5_, HS6_⟩ (fun hHeld => ?_)
                clear hK K
                refine norm_ (a' := ?_) ?_ ?_
                rotate_left
                · show Act.put _ (some 58) _ = _
                  simp only [Act.put, List.setIfInBounds_toArray, List.set_cons_zero, List.set_cons_succ, i64_w, i32_w]
                  rfl
                refine pure_ (i := 21) (N := some 59) (v := ?_) (a' := ?_) #[true, true, true, true, true, true, true, true, true, true, true, true, true, true, true, true, true, true, true, true, true, true, false] rfl rfl (any_of HT_.out (by kernel_rfl)) (fun _ _ _ h => h) (Or.inl ⟨by rfl, ?_⟩) ?_ ?_
                rotate_left
                · intro w'
                  go_simp
                  with_reducible rfl
                rotate_left
                · simp only [Act.put, List.setIfInBounds_toArray, List.set_cons_zero, List.set_cons_succ, i64_w, i32_w]
                  rfl
                refine last_ (i := 22) (N := none) #[true, true, true, true, true, true, true, true, true, true, true, true, true, true, true, true, true, true, true, true, true, true, true] rfl rfl (one_of HT_.out (by kernel_rfl)) (by decide) (fun K hK => ?_)
                refine skip_ (w1 := ?_) (by rfl) rfl ?_ ?_
                rotate_left
                · go_simp
                  rfl
                refine hK.out _ _ ?_
                clear hK K
                refine done_ (done_of HT_.out (by kernel_rfl)) ?_
                have n0_ : Aside0 (Kd.S (Kd.slice 28 k28) 77 ((((w47.setCell ⟨go45, (a2 : Int).toNat * 4, none⟩ (.int .i64 t200)).setCell ⟨go45, (a2 : Int).toNat * 4 + 1, none⟩ (.int .u16 t201)).setCell ⟨go45, (a2 : Int).toNat * 4 + 2, none⟩ (.int .u16 t202)).setCell ⟨go45, (a2 : Int).toNat * 4 + 3, none⟩ (.int .i64 t203)) w.heap.size (fun _ => True) (.slice (some ad195) t190.length co14) y206) := ⟨by (with_reducible repeat (first | apply Kd.S_alloc | apply Kd.S_drewN | apply Kd.S_drew)); exact HQ48.out⟩
                have n1_ : Aside0 (((((w47.setCell ⟨go45, (a2 : Int).toNat * 4, none⟩ (.int .i64 t200)).setCell ⟨go45, (a2 : Int).toNat * 4 + 1, none⟩ (.int .u16 t201)).setCell ⟨go45, (a2 : Int).toNat * 4 + 2, none⟩ (.int .u16 t202)).setCell ⟨go45, (a2 : Int).toNat * 4 + 3, none⟩ (.int .i64 t203)).heap[gb188]? = some (.cells #[.slice A0_0 l0_0.length c0_0] 24 (0, 0))) := ⟨by (with_reducible repeat (first | refine blk_drewN ?_ _ | refine blk_drew ?_ | refine blk_alloc ?_ _)); refine blk_far ?_ (by have h_ := Kd.R_ne HL195_0.out BK188.out (by decide); intro e_; exact h_ (by rw [e_]; rfl)) _; (with_reducible repeat (first | refine blk_drewN ?_ _ | refine blk_drew ?_ | refine blk_alloc ?_ _)); refine blk_far ?_ (by have h_ := Kd.R_ne HL195_0.out BK188.out (by decide); intro e_; exact h_ (by rw [e_]; rfl)) _; (with_reducible repeat (first | refine blk_drewN ?_ _ | refine blk_drew ?_ | refine blk_alloc ?_ _)); refine blk_far ?_ (by have h_ := Kd.R_ne HL195_0.out BK188.out (by decide); intro e_; exact h_ (by rw [e_]; rfl)) _; (with_reducible repeat (first | refine blk_drewN ?_ _ | refine blk_drew ?_ | refine blk_alloc ?_ _)); refine blk_far ?_ (by have h_ := Kd.R_ne HL195_0.out BK188.out (by decide); intro e_; exact h_ (by rw [e_]; rfl)) _; (with_reducible repeat (first | refine blk_drewN ?_ _ | refine blk_drew ?_ | refine blk_alloc ?_ _)); exact BK188.out⟩
                have n2_ : Aside0 (((((w47.setCell ⟨go45, (a2 : Int).toNat * 4, none⟩ (.int .i64 t200)).setCell ⟨go45, (a2 : Int).toNat * 4 + 1, none⟩ (.int .u16 t201)).setCell ⟨go45, (a2 : Int).toNat * 4 + 2, none⟩ (.int .u16 t202)).setCell ⟨go45, (a2 : Int).toNat * 4 + 3, none⟩ (.int .i64 t203)).heap[gb189]? = some (.cells #[.slice none 0 0] 24 (0, 0))) := ⟨by (with_reducible repeat (first | refine blk_drewN ?_ _ | refine blk_drew ?_ | refine blk_alloc ?_ _)); refine blk_far ?_ (by have h_ := Kd.R_ne HL195_0.out BK189.out (by decide); intro e_; exact h_ (by rw [e_]; rfl)) _; (with_reducible repeat (first | refine blk_drewN ?_ _ | refine blk_drew ?_ | refine blk_alloc ?_ _)); refine blk_far ?_ (by have h_ := Kd.R_ne HL195_0.out BK189.out (by decide); intro e_; exact h_ (by rw [e_]; rfl)) _; (with_reducible repeat (first | refine blk_drewN ?_ _ | refine blk_drew ?_ | refine blk_alloc ?_ _)); refine blk_far ?_ (by have h_ := Kd.R_ne HL195_0.out BK189.out (by decide); intro e_; exact h_ (by rw [e_]; rfl)) _; (with_reducible repeat (first | refine blk_drewN ?_ _ | refine blk_drew ?_ | refine blk_alloc ?_ _)); refine blk_far ?_ (by have h_ := Kd.R_ne HL195_0.out BK189.out (by decide); intro e_; exact h_ (by rw [e_]; rfl)) _; (with_reducible repeat (first | refine blk_drewN ?_ _ | refine blk_drew ?_ | refine blk_alloc ?_ _)); exact BK189.out⟩
                have n3_ : Aside0 (((((w47.setCell ⟨go45, (a2 : Int).toNat * 4, none⟩ (.int .i64 t200)).setCell ⟨go45, (a2 : Int).toNat * 4 + 1, none⟩ (.int .u16 t201)).setCell ⟨go45, (a2 : Int).toNat * 4 + 2, none⟩ (.int .u16 t202)).setCell ⟨go45, (a2 : Int).toNat * 4 + 3, none⟩ (.int .i64 t203)).heap[gb193]? = some (.cells #[.slice (some ad195) t190.length co14] 24 (0, 0))) := ⟨by (with_reducible repeat (first | refine blk_drewN ?_ _ | refine blk_drew ?_ | refine blk_alloc ?_ _)); refine blk_far ?_ (by have h_ := Kd.R_ne HL195_0.out BK193.out (by decide); intro e_; exact h_ (by rw [e_]; rfl)) _; (with_reducible repeat (first | refine blk_drewN ?_ _ | refine blk_drew ?_ | refine blk_alloc ?_ _)); refine blk_far ?_ (by have h_ := Kd.R_ne HL195_0.out BK193.out (by decide); intro e_; exact h_ (by rw [e_]; rfl)) _; (with_reducible repeat (first | refine blk_drewN ?_ _ | refine blk_drew ?_ | refine blk_alloc ?_ _)); refine blk_far ?_ (by have h_ := Kd.R_ne HL195_0.out BK193.out (by decide); intro e_; exact h_ (by rw [e_]; rfl)) _; (with_reducible repeat (first | refine blk_drewN ?_ _ | refine blk_drew ?_ | refine blk_alloc ?_ _)); refine blk_far ?_ (by have h_ := Kd.R_ne HL195_0.out BK193.out (by decide); intro e_; exact h_ (by rw [e_]; rfl)) _; (with_reducible repeat (first | refine blk_drewN ?_ _ | refine blk_drew ?_ | refine blk_alloc ?_ _)); exact BK193.out⟩
                have n4_ : Aside0 (Below w.heap.size w ((((w47.setCell ⟨go45, (a2 : Int).toNat * 4, none⟩ (.int .i64 t200)).setCell ⟨go45, (a2 : Int).toNat * 4 + 1, none⟩ (.int .u16 t201)).setCell ⟨go45, (a2 : Int).toNat * 4 + 2, none⟩ (.int .u16 t202)).setCell ⟨go45, (a2 : Int).toNat * 4 + 3, none⟩ (.int .i64 t203))) := ⟨by repeat (first | (with_reducible first | exact HB.out | apply below_alloc | apply pw_below_drewN | apply below_drew1 | refine below_set ?_ GB45.out | refine below_set ?_ GB45.out | refine below_set ?_ GB45.out | refine below_set ?_ GB45.out | refine below_set ?_ GE188.out | refine below_set ?_ GE189.out | refine below_set ?_ GE193.out) | exact HB.out)⟩
                (try clear HO_194000)
                (try clear BK188)
                (try clear BK189)
                (try clear BK193)
                (try clear HB)
                generalize ((((w47.setCell ⟨go45, (a2 : Int).toNat * 4, none⟩ (.int .i64 t200)).setCell ⟨go45, (a2 : Int).toNat * 4 + 1, none⟩ (.int .u16 t201)).setCell ⟨go45, (a2 : Int).toNat * 4 + 2, none⟩ (.int .u16 t202)).setCell ⟨go45, (a2 : Int).toNat * 4 + 3, none⟩ (.int .i64 t203)) = w50 at n0_ n1_ n2_ n3_ n4_ ⊢
                have HO_194000 := n0_
                have BK188 := n1_
                have BK189 := n2_
                have BK193 := n3_
                have HB := n4_
                clear n0_ n1_ n2_ n3_ n4_
                have hnb51 := NB193_188.out
                have hnc51 := NB188_193.out
                have hnb52 := NB193_189.out
                have hnc52 := NB189_193.out
                have hcz53_0 : w50.cell? ⟨gb193, 0, none⟩ = some (.slice (some ad195) t190.length co14) := (blk_cell BK193.out 0).trans rfl
                have hfz53_0 := blk_frozen BK193.out 0
                have hnb54 := NB189_188.out
                have hnc54 := NB188_189.out
                have hcz55_0 : w50.cell? ⟨gb189, 0, none⟩ = some (.slice none 0 0) := (blk_cell BK189.out 0).trans rfl
                have hfz55_0 := blk_frozen BK189.out 0
                try go_wp2
                refine bodyPost_ret (results_cell_row rfl _ _ gb189 24 #[.slice (some ad195) t190.length co14] (0, 0) _ rfl (by (with_reducible repeat (first | refine blk_drewN ?_ _ | refine blk_drew ?_ | refine blk_alloc ?_ _)); refine blk_put (cs := #[.slice none 0 0]) ?_ 0 _ rfl; (with_reducible repeat (first | refine blk_drewN ?_ _ | refine blk_drew ?_ | refine blk_alloc ?_ _)); exact BK189.out) Try.underlying24 rfl (by kernel_rfl)) rfl ?_
                exact ⟨_, by first | rfl | (simp [errW_none, errW_some] <;> rfl) | (simp [*, errW_none, errW_some] <;> rfl), by (with_reducible repeat (first | apply Kd.S_alloc | apply Kd.S_drewN | apply Kd.S_drew)); exact Kd.S_mono (Kd.S_far (p := ⟨gb189, 0, none⟩) (Kd.S_types HO_194000.out BK189.out (by decide)) (fun _ hk => hk.2) (.slice (some ad195) t190.length co14)) (fun _ hk => trivial), by repeat (first | (with_reducible first | exact HB.out | apply below_alloc | apply pw_below_drewN | apply below_drew1 | refine below_set ?_ GE188.out | refine below_set ?_ GE189.out | refine below_set ?_ GE193.out) | exact HB.out)⟩
              · rw [if_neg c41] at H
                exact absurd H (by simp)
            · rw [if_neg c40] at H
              exact absurd H (by simp)
          · rw [if_neg c39] at H
            exact absurd H (by simp)
        · rw [if_neg c38] at H
          exact absurd H (by simp)

/-! ### portagekit_LentValues: function 73 -/
mutual
def portagekit_LentValues.l0 : Nat → List (S137) → List (S137) → Int → Option ((List (S137)))
  | 0, _, _, _ => none
  | k + 1, x0, x3, x4 => if x4 < (x0.length : Int) then (if 0 ≤ x4 then (if x3.length < 8796093022208 then (portagekit_LentValues.l0 k x0 (x3 ++ [(⟨(rd_T137 x0 x4).f0, (rd_T137 x0 x4).f1⟩ : S137)]) (wrap64 (x4 + 1))) else (none)) else (none)) else (portagekit_LentValues.l1 k x3 0)
def portagekit_LentValues.l1 : Nat → List (S137) → Int → Option ((List (S137)))
  | 0, _, _ => none
  | k + 1, x3, x5 => if x5 < 64 then (if x3.length < 8796093022208 then (portagekit_LentValues.l1 k (x3 ++ [(⟨(-9), x5⟩ : S137)]) (wrap64 (x5 + 1))) else (none)) else (some x3)
end
def portagekit_LentValues.f (k : Nat) (l0 : List (S137)) : Option ((List (S137))) := portagekit_LentValues.l0 k l0 ([] : List (S137)) 0
theorem portagekit_LentValues.mono_l : ∀ k, (∀ y0 y1 y2, LeO (portagekit_LentValues.l0 k y0 y1 y2) (portagekit_LentValues.l0 (k + 1) y0 y1 y2)) ∧ (∀ y0 y1, LeO (portagekit_LentValues.l1 k y0 y1) (portagekit_LentValues.l1 (k + 1) y0 y1))
  | 0 => ⟨fun _ _ _ r h => by simp [portagekit_LentValues.l0] at h, fun _ _ r h => by simp [portagekit_LentValues.l1] at h⟩
  | k + 1 => by
    obtain ⟨ih0, ih1⟩ := portagekit_LentValues.mono_l k
    refine ⟨?_, ?_⟩
    · intro y0 y1 y2
      unfold portagekit_LentValues.l0
      repeat' first
      | (with_reducible exact ih0 _ _ _)
      | (with_reducible exact ih1 _ _)
      | (with_reducible exact LeO.refl _)
      | (with_reducible exact LeO.none _)
      | (with_reducible refine LeO.ite ?_ ?_)
      | (with_reducible refine LeO.bind ?_ (fun _ => ?_))
      | exact ih0 _ _ _
      | exact ih1 _ _
      | exact LeO.none _
      | refine LeO.ite ?_ ?_
      | refine LeO.bind ?_ (fun _ => ?_)
    · intro y0 y1
      unfold portagekit_LentValues.l1
      repeat' first
      | (with_reducible exact ih0 _ _ _)
      | (with_reducible exact ih1 _ _)
      | (with_reducible exact LeO.refl _)
      | (with_reducible exact LeO.none _)
      | (with_reducible refine LeO.ite ?_ ?_)
      | (with_reducible refine LeO.bind ?_ (fun _ => ?_))
      | exact ih0 _ _ _
      | exact ih1 _ _
      | exact LeO.none _
      | refine LeO.ite ?_ ?_
      | refine LeO.bind ?_ (fun _ => ?_)
theorem portagekit_LentValues.mono : ∀ a0 k, LeO (portagekit_LentValues.f k a0) (portagekit_LentValues.f (k + 1) a0) := by
  intro a0 k
  obtain ⟨ih0, ih1⟩ := portagekit_LentValues.mono_l k
  unfold portagekit_LentValues.f
  repeat' first
      | (with_reducible exact ih0 _ _ _)
      | (with_reducible exact ih1 _ _)
      | (with_reducible exact LeO.refl _)
      | (with_reducible exact LeO.none _)
      | (with_reducible refine LeO.ite ?_ ?_)
      | (with_reducible refine LeO.bind ?_ (fun _ => ?_))
      | exact ih0 _ _ _
      | exact ih1 _ _
      | exact LeO.none _
      | refine LeO.ite ?_ ?_
      | refine LeO.bind ?_ (fun _ => ?_)
set_option maxHeartbeats 8000000 in
set_option maxRecDepth 100000 in
theorem portagekit_LentValues.calls (k : Nat) (A0 : Option Addr) (c0 : Nat) (l0 : List (S137)) (r : List (S137)) (w : World) (hr0 : Kd.C k137 w A0 l0.length l0) (hc0 : l0.length ≤ c0) (h : portagekit_LentValues.f k l0 = some r) :
    Calls Try.prog 73 #[.slice A0 l0.length c0] w fun e w' => ∃ v0_ : Value, e = .returned (v0_) ∧ Kd.R k137 137 w' w.heap.size (fun _ => True) v0_ r ∧ Below w.heap.size w w' := by
  have hu137 := Try.underlying137
  have HR0 := Aside0.mk hr0
  have HC0 := Aside0.mk hc0
  clear hr0 hc0
  have HB := Aside0.mk (Below.refl w.heap.size w)
  have H : (portagekit_LentValues.l0 k l0 ([] : List (S137)) 0) = some r := h
  clear h
  have H' := Aside0.mk H
  clear H
  go_enter Try.func73, Try.ntmps73
  go_wp2
  go_loopg [3, 4] k (fun kq v3 v4 w' => ∃ (x3_1 : List (S137)) (x4_1 : Int), v4 = .int .i64 x4_1 ∧ Aside0 (portagekit_LentValues.l0 kq l0 x3_1 x4_1 = some r) ∧ Aside0 (kq ≤ k) ∧ Aside0 (Kd.R k137 137 w' w.heap.size (fun _ => True) v3 x3_1) ∧ Aside0 (Below w.heap.size w w'))
  case atStart => exact ⟨(([] : List (S137))), (0), (by first | rfl | (simp; done) | (simp [*]; done)), H', ⟨Nat.le_refl _⟩, ⟨by first | exact Kd.R_nil _ _ _ _ _ | exact Kd.N_nil _ _ _ _ _ | exact Kd.V_nil _ _ _ _ _ | exact Kd.Q_nil _ _ _ _ _ | exact Kd.S_nil _ _ _ _ _⟩, ⟨by repeat (first | (with_reducible first | exact HB.out | apply below_alloc | apply pw_below_drewN | apply below_drew1) | exact HB.out)⟩⟩
  case round =>
    clear H'
    obtain ⟨x3_1, x4_1, rfl, HA, HK1, HO_3, HB⟩ := hrel
    cases gk with
    | zero => exact absurd HA.out (by simp [portagekit_LentValues.l0])
    | succ k1 =>
      have H := HA.out
      clear HA
      simp only [portagekit_LentValues.l0] at H
      by_cases c2 : x4_1 < (l0.length : Int)
      · rw [if_pos c2] at H
        have c2b0 : decide (x4_1 < (l0.length : Int)) = true := decide_eq_true c2
        clear c2
        by_cases c3 : 0 ≤ x4_1
        · rw [if_pos c3] at H
          have c3b0 : decide (0 ≤ x4_1) = true := decide_eq_true c3
          clear c3
          by_cases c4 : x3_1.length < 8796093022208
          · rw [if_pos c4] at H
            have LMc4 := Aside0.mk c4
            clear c4
            obtain ⟨y208, hy208⟩ : ∃ y_ : List (S137), y_ = (x3_1 ++ [(⟨(rd_T137 l0 x4_1).f0, (rd_T137 l0 x4_1).f1⟩ : S137)]) := ⟨_, rfl⟩
            replace H : (portagekit_LentValues.l0 k1 l0 y208 (wrap64 (x4_1 + 1))) = some r := by first | (rw [hy208]; with_reducible exact H) | (have H2_ := (Option.bind_some _ _).symm.trans H; rw [hy208]; with_reducible exact H2_) | (have H2_ := (Option.bind_some _ _).symm.trans H; with_reducible exact H2_) | with_reducible exact H | (rw [hy208]; exact H) | exact H
            have Ny208 := Aside0.mk hy208
            clear hy208
            have H' := Aside0.mk H
            clear H
            have p207 : 0 ≤ (x4_1 : Int) := of_decide_eq_true (by first | (with_reducible assumption) | assumption)
            have q207 : x4_1 < (l0.length : Int) := of_decide_eq_true (by first | (with_reducible assumption) | assumption)
            obtain ⟨ad207, e207, hx207_0, hx207_1⟩ := at_T137 HR0.out x4_1 p207 q207
            cases e207
            replace hx207_0 := (HB.out.cell (World.block_lt_of_cell? w _ hx207_0)).trans hx207_0
            replace hx207_1 := (HB.out.cell (World.block_lt_of_cell? w _ hx207_1)).trans hx207_1
            replace p207 := eq_true p207
            replace q207 := eq_true q207
            go_wp2_with (first | ((with_reducible refine gate_builtin (b := .append) (xs := #[.tmp 12, .tmp 17]) rfl ?_); at_builtin; refine Kd.R_append k137 (w0 := w) w.heap.size rfl (.tmp 12) (.tmp 17) 65 137 (.agg #[(.int .i64 0), (.int .i64 0)]) 16 rfl Try.underlying65 info137 rfl (by decide) (by omega) u3 x3_1 (⟨(rd_T137 l0 x4_1).f0, (rd_T137 l0 x4_1).f1⟩ : S137) [.int .i64 ((rd_T137 l0 x4_1).f0), .int .i64 ((rd_T137 l0 x4_1).f1)] (fun _ => True) (fun _ => False) rfl rfl ?aP (fun _ hk => hk.elim) ?aF ?aO ?aB ?aS ?aL ?_; (case aP => exact k137_mkM _ _ _ (⟨(rd_T137 l0 x4_1).f0, (rd_T137 l0 x4_1).f1⟩ : S137)); (case aB => exact (by repeat (first | (with_reducible first | exact HB.out | apply below_alloc | apply pw_below_drewN | apply below_drew1) | exact HB.out))); (case aF => exact (fun _ _ => trivial)); (case aO => exact (by (with_reducible repeat (first | apply Kd.R_alloc | apply Kd.R_drewN | apply Kd.R_drew)); exact HO_3.out)); (case aS => exact (below_size (by repeat (first | (with_reducible first | exact HB.out | apply below_alloc | apply pw_below_drewN | apply below_drew1) | exact HB.out)))); (case aL => have := LMc4.out; omega); intro v209 w5 ho hb hg hat; rw [← Ny208.out] at ho; have n0_ := Aside0.mk (hb); have n1_ := Aside0.mk (ho); clear HB; clear HO_3; have HB := n0_; have HO210 := n1_; clear n0_ n1_; clear ho hb hg hat))
            go_roundg k1
            case measure => have := HK1.out; omega
            case rel => exact ⟨(y208), (wrap64 (x4_1 + 1)), (by first | rfl | (simp; done) | (simp [*]; done)), H', ⟨by have := HK1.out; omega⟩, ⟨by (with_reducible repeat (first | apply Kd.R_alloc | apply Kd.R_drewN | apply Kd.R_drew)); exact HO210.out⟩, ⟨by repeat (first | (with_reducible first | exact HB.out | apply below_alloc | apply pw_below_drewN | apply below_drew1) | exact HB.out)⟩⟩
          · rw [if_neg c4] at H
            exact absurd H (by simp)
        · rw [if_neg c3] at H
          exact absurd H (by simp)
      · rw [if_neg c2] at H
        have c2b0 : decide (x4_1 < (l0.length : Int)) = false := decide_eq_false c2
        clear c2
        have H' := Aside0.mk H
        clear H
        go_wp2
        go_loopg [3, 5] k1 (fun kq v3 v5 w' => ∃ (x3_2 : List (S137)) (x5_2 : Int), v5 = .int .i64 x5_2 ∧ Aside0 (portagekit_LentValues.l1 kq x3_2 x5_2 = some r) ∧ Aside0 (kq ≤ k1) ∧ Aside0 (Kd.R k137 137 w' w.heap.size (fun _ => True) v3 x3_2) ∧ Aside0 (Below w.heap.size w w'))
        case atStart => exact ⟨(x3_1), (0), (by first | rfl | (simp; done) | (simp [*]; done)), H', ⟨Nat.le_refl _⟩, ⟨by (with_reducible repeat (first | apply Kd.R_alloc | apply Kd.R_drewN | apply Kd.R_drew)); exact HO_3.out⟩, ⟨by repeat (first | (with_reducible first | exact HB.out | apply below_alloc | apply pw_below_drewN | apply below_drew1) | exact HB.out)⟩⟩
        case round =>
          clear H'
          try clear c2
          try clear c2b0
          try clear p2
          try clear q2
          try clear hx2
          try clear c3
          try clear c3b0
          try clear c4
          try clear hx207_0
          try clear hx207_1
          try clear p207
          try clear q207
          obtain ⟨x3_2, x5_2, rfl, HA, HK2, HO_3, HB⟩ := hrel
          cases gk with
          | zero => exact absurd HA.out (by simp [portagekit_LentValues.l1])
          | succ k2 =>
            have H := HA.out
            clear HA
            simp only [portagekit_LentValues.l1] at H
            by_cases c6 : x5_2 < 64
            · rw [if_pos c6] at H
              have c6b0 : decide (x5_2 < 64) = true := decide_eq_true c6
              clear c6
              by_cases c7 : x3_2.length < 8796093022208
              · rw [if_pos c7] at H
                have LMc7 := Aside0.mk c7
                clear c7
                obtain ⟨y211, hy211⟩ : ∃ y_ : List (S137), y_ = (x3_2 ++ [(⟨(-9), x5_2⟩ : S137)]) := ⟨_, rfl⟩
                replace H : (portagekit_LentValues.l1 k2 y211 (wrap64 (x5_2 + 1))) = some r := by first | (rw [hy211]; with_reducible exact H) | (have H2_ := (Option.bind_some _ _).symm.trans H; rw [hy211]; with_reducible exact H2_) | (have H2_ := (Option.bind_some _ _).symm.trans H; with_reducible exact H2_) | with_reducible exact H | (rw [hy211]; exact H) | exact H
                have Ny211 := Aside0.mk hy211
                clear hy211
                have H' := Aside0.mk H
                clear H
                go_wp2_with (first | ((with_reducible refine gate_builtin (b := .append) (xs := #[.tmp 23, .tmp 26]) rfl ?_); at_builtin; refine Kd.R_append k137 (w0 := w) w.heap.size rfl (.tmp 23) (.tmp 26) 65 137 (.agg #[(.int .i64 0), (.int .i64 0)]) 16 rfl Try.underlying65 info137 rfl (by decide) (by omega) u3 x3_2 (⟨(-9), x5_2⟩ : S137) [.int .i64 (-9), .int .i64 x5_2] (fun _ => True) (fun _ => False) rfl rfl ?aP (fun _ hk => hk.elim) ?aF ?aO ?aB ?aS ?aL ?_; (case aP => exact k137_mkM _ _ _ (⟨(-9), x5_2⟩ : S137)); (case aB => exact (by repeat (first | (with_reducible first | exact HB.out | apply below_alloc | apply pw_below_drewN | apply below_drew1) | exact HB.out))); (case aF => exact (fun _ _ => trivial)); (case aO => exact (by (with_reducible repeat (first | apply Kd.R_alloc | apply Kd.R_drewN | apply Kd.R_drew)); exact HO_3.out)); (case aS => exact (below_size (by repeat (first | (with_reducible first | exact HB.out | apply below_alloc | apply pw_below_drewN | apply below_drew1) | exact HB.out)))); (case aL => have := LMc7.out; omega); intro v212 w8 ho hb hg hat; rw [← Ny211.out] at ho; have n0_ := Aside0.mk (hb); have n1_ := Aside0.mk (ho); clear HB; clear HO_3; have HB := n0_; have HO213 := n1_; clear n0_ n1_; clear ho hb hg hat))
                go_roundg k2
                case measure => have := HK1.out; have := HK2.out; omega
                case rel => exact ⟨(y211), (wrap64 (x5_2 + 1)), (by first | rfl | (simp; done) | (simp [*]; done)), H', ⟨by have := HK1.out; have := HK2.out; omega⟩, ⟨by (with_reducible repeat (first | apply Kd.R_alloc | apply Kd.R_drewN | apply Kd.R_drew)); exact HO213.out⟩, ⟨by repeat (first | (with_reducible first | exact HB.out | apply below_alloc | apply pw_below_drewN | apply below_drew1) | exact HB.out)⟩⟩
              · rw [if_neg c7] at H
                exact absurd H (by simp)
            · rw [if_neg c6] at H
              have c6b0 : decide (x5_2 < 64) = false := decide_eq_false c6
              clear c6
              obtain rfl := Option.some.inj H
              go_wp2
              go_ret
              exact ⟨_, by first | rfl | (simp [errW_none, errW_some] <;> rfl) | (simp [*, errW_none, errW_some] <;> rfl), by (with_reducible repeat (first | apply Kd.R_alloc | apply Kd.R_drewN | apply Kd.R_drew)); exact HO_3.out, by repeat (first | (with_reducible first | exact HB.out | apply below_alloc | apply pw_below_drewN | apply below_drew1) | exact HB.out)⟩

-- NOT PRINTED: function 114 (atomic_LoadInt64)

-- NOT PRINTED: function 78 (atomic_Int64_Load)

/-! ### profile_callees: function 80 -/
def profile_callees.f (a0 : Int) (a1 : Int) : Option (Int) := if a0 = 0 then (some a1) else (if a1 = 0 then (some a0) else (if a0 = a1 then (some a0) else (some (-1))))
set_option maxHeartbeats 8000000 in
set_option maxRecDepth 100000 in
theorem profile_callees.calls (a0 : Int) (a1 : Int) (r : Int) (w : World) (h : profile_callees.f a0 a1 = some r) :
    Calls Try.prog 80 #[.int .i64 a0, .int .i64 a1] w fun e w' => e = .returned (.int .i64 r) ∧ Drawn0 w w' := by
  have H : (if a0 = 0 then (some a1) else (if a1 = 0 then (some a0) else (if a0 = a1 then (some a0) else (some (-1))))) = some r := h
  clear h
  by_cases c3 : a0 = 0
  · rw [if_pos c3] at H
    have c3b0 : (a0 == 0) = true := beq_iff_eq.mpr c3
    have c3b1 : (a0 != 0) = false := bne_eq_false_iff_eq.mpr c3
    clear c3
    obtain rfl := Option.some.inj H
    go_enter Try.func80, Try.ntmps80
    go_wp2
    go_ret
    exact ⟨by first | rfl | (simp; done) | (simp [*]; done), by repeat (first | exact Drawn0.refl _ | apply Drawn0.step)⟩
  · rw [if_neg c3] at H
    have c3b0 : (a0 == 0) = false := beq_eq_false_iff_ne.mpr c3
    have c3b1 : (a0 != 0) = true := bne_iff_ne.mpr c3
    by_cases c4 : a1 = 0
    · rw [if_pos c4] at H
      have c4b0 : (a1 == 0) = true := beq_iff_eq.mpr c4
      have c4b1 : (a1 != 0) = false := bne_eq_false_iff_eq.mpr c4
      clear c4
      obtain rfl := Option.some.inj H
      go_enter Try.func80, Try.ntmps80
      go_wp2
      go_ret
      exact ⟨by first | rfl | (simp; done) | (simp [*]; done), by repeat (first | exact Drawn0.refl _ | apply Drawn0.step)⟩
    · rw [if_neg c4] at H
      have c4b0 : (a1 == 0) = false := beq_eq_false_iff_ne.mpr c4
      have c4b1 : (a1 != 0) = true := bne_iff_ne.mpr c4
      by_cases c5 : a0 = a1
      · rw [if_pos c5] at H
        have c5b0 : (a0 == a1) = true := beq_iff_eq.mpr c5
        have c5b1 : (a0 != a1) = false := bne_eq_false_iff_eq.mpr c5
        clear c5
        obtain rfl := Option.some.inj H
        go_enter Try.func80, Try.ntmps80
        go_wp2
        go_ret
        exact ⟨by first | rfl | (simp; done) | (simp [*]; done), by repeat (first | exact Drawn0.refl _ | apply Drawn0.step)⟩
      · rw [if_neg c5] at H
        have c5b0 : (a0 == a1) = false := beq_eq_false_iff_ne.mpr c5
        have c5b1 : (a0 != a1) = true := bne_iff_ne.mpr c5
        obtain rfl := Option.some.inj H
        go_enter Try.func80, Try.ntmps80
        go_wp2
        go_ret
        exact ⟨by first | rfl | (simp; done) | (simp [*]; done), by repeat (first | exact Drawn0.refl _ | apply Drawn0.step)⟩

end Go.Proofs.Ytjeaojolhdfpeaa.PProfileBook
