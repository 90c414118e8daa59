-- PRINTED BY print.sh 35421559b90ae4d0a3588c463048766b98c2df88dd9212a6774a882060cdf62d: not written by this session
import Derived.Test.YtklknkfoafdgpaaPLiveKnownx0
import Derived.Test.YtklknkfoafdgpaaPLiveKnownx2
import Derived.Test.YtklknkfoafdgpaaPLiveKnownx4
namespace Go.Proofs.Ytklknkfoafdgpaa.PLiveKnown
open Go.RowKit Go.Proofs.YtklknkfoafdgpaaW.PrintWords Go.Proofs.YtklknkfoafdgpaaW.PrintLast Go.Proofs.YtklknkfoafdgpaaW.PrintMore
attribute [local go_sem] max2_int min2_int max_two min_two max_three min_three max_four min_four   -- for this text's walks alone
set_option linter.unusedVariables false
set_option linter.unusedSimpArgs false

/-! ### portageref0_SameRegs: function 17 -/
mutual
def portageref0_SameRegs.j0 : Nat → Bool → Int → Int → List (S43) → Int → Int → List (S43) → Option (Bool)
  | 0, _, _, _, _, _, _, _ => none
  | k + 1, x29, x124000, x124001, x124002, x125000, x125001, x125002 => if x29 = true then (some false) else (portageref0_SameRegs.l0 k 0 x124000 x124001 x124002 x125000 x125001 x125002)
def portageref0_SameRegs.l0 : Nat → Int → Int → Int → List (S43) → Int → Int → List (S43) → Option (Bool)
  | 0, _, _, _, _, _, _, _ => none
  | k + 1, x5, x124000, x124001, x124002, x125000, x125001, x125002 => if x5 < (x124002.length : Int) then (if 0 ≤ x5 then (if x5 < (x125002.length : Int) then (if ((rd_T43 x124002 x5).f0) = ((rd_T43 x125002 x5).f0) then ((portageref0_SameInts.f k ((rd_T43 x124002 x5).f2) ((rd_T43 x125002 x5).f2)).bind fun t129 => (if t129 = true then (portageref0_SameRegs.j2 k x5 ((((rd_T43 x124002 x5).f1).length : Int) != (((rd_T43 x125002 x5).f1).length : Int)) x124000 x124001 x124002 x125000 x125001 x125002 ((rd_T43 x124002 x5).f0) ((rd_T43 x124002 x5).f1) ((rd_T43 x124002 x5).f2) ((rd_T43 x125002 x5).f0) ((rd_T43 x125002 x5).f1) ((rd_T43 x125002 x5).f2)) else (portageref0_SameRegs.j2 k x5 true x124000 x124001 x124002 x125000 x125001 x125002 ((rd_T43 x124002 x5).f0) ((rd_T43 x124002 x5).f1) ((rd_T43 x124002 x5).f2) ((rd_T43 x125002 x5).f0) ((rd_T43 x125002 x5).f1) ((rd_T43 x125002 x5).f2)))) else (portageref0_SameRegs.j2 k x5 true x124000 x124001 x124002 x125000 x125001 x125002 ((rd_T43 x124002 x5).f0) ((rd_T43 x124002 x5).f1) ((rd_T43 x124002 x5).f2) ((rd_T43 x125002 x5).f0) ((rd_T43 x125002 x5).f1) ((rd_T43 x125002 x5).f2))) else (none)) else (none)) else (some true)
def portageref0_SameRegs.j2 : Nat → Int → Bool → Int → Int → List (S43) → Int → Int → List (S43) → Int → List (S47) → List Int → Int → List (S47) → List Int → Option (Bool)
  | 0, _, _, _, _, _, _, _, _, _, _, _, _, _, _ => none
  | k + 1, x5, x68, x124000, x124001, x124002, x125000, x125001, x125002, x127000, x127001, x127002, x129000, x129001, x129002 => if x68 = true then (some false) else (portageref0_SameRegs.l1 k x5 0 x124000 x124001 x124002 x125000 x125001 x125002 x127000 x127001 x127002 x129000 x129001 x129002)
def portageref0_SameRegs.l1 : Nat → Int → Int → Int → Int → List (S43) → Int → Int → List (S43) → Int → List (S47) → List Int → Int → List (S47) → List Int → Option (Bool)
  | 0, _, _, _, _, _, _, _, _, _, _, _, _, _, _ => none
  | k + 1, x5, x8, x124000, x124001, x124002, x125000, x125001, x125002, x127000, x127001, x127002, x129000, x129001, x129002 => if x8 < (x127001.length : Int) then (if 0 ≤ x8 then (if x8 < (x129001.length : Int) then ((portageref0_SameIns.f k ((rd_T47 x127001 x8).f0) ((rd_T47 x127001 x8).f1) ((rd_T47 x127001 x8).f2) ((rd_T47 x127001 x8).f3) ((rd_T47 x127001 x8).f4) ((rd_T47 x127001 x8).f5) ((rd_T47 x127001 x8).f6) ((rd_T47 x127001 x8).f7) ((rd_T47 x129001 x8).f0) ((rd_T47 x129001 x8).f1) ((rd_T47 x129001 x8).f2) ((rd_T47 x129001 x8).f3) ((rd_T47 x129001 x8).f4) ((rd_T47 x129001 x8).f5) ((rd_T47 x129001 x8).f6) ((rd_T47 x129001 x8).f7)).bind fun t132 => (if t132 = true then (portageref0_SameRegs.l1 k x5 (wrap64 (x8 + 1)) x124000 x124001 x124002 x125000 x125001 x125002 x127000 x127001 x127002 x129000 x129001 x129002) else (some false))) else (none)) else (none)) else (portageref0_SameRegs.l0 k (wrap64 (x5 + 1)) x124000 x124001 x124002 x125000 x125001 x125002)
end
def portageref0_SameRegs.f (k : Nat) (a0_0 : Int) (a0_1 : Int) (l0_2 : List (S43)) (a1_0 : Int) (a1_1 : Int) (l1_2 : List (S43)) : Option (Bool) := if a0_0 = a1_0 then (if a0_1 = a1_1 then (portageref0_SameRegs.j0 k ((l0_2.length : Int) != (l1_2.length : Int)) a0_0 a0_1 l0_2 a1_0 a1_1 l1_2) else (portageref0_SameRegs.j0 k true a0_0 a0_1 l0_2 a1_0 a1_1 l1_2)) else (portageref0_SameRegs.j0 k true a0_0 a0_1 l0_2 a1_0 a1_1 l1_2)
theorem portageref0_SameRegs.mono_l : ∀ k, (∀ y0 y1 y2 y3 y4 y5 y6, LeO (portageref0_SameRegs.j0 k y0 y1 y2 y3 y4 y5 y6) (portageref0_SameRegs.j0 (k + 1) y0 y1 y2 y3 y4 y5 y6)) ∧ (∀ y0 y1 y2 y3 y4 y5 y6, LeO (portageref0_SameRegs.l0 k y0 y1 y2 y3 y4 y5 y6) (portageref0_SameRegs.l0 (k + 1) y0 y1 y2 y3 y4 y5 y6)) ∧ (∀ y0 y1 y2 y3 y4 y5 y6 y7 y8 y9 y10 y11 y12 y13, LeO (portageref0_SameRegs.j2 k y0 y1 y2 y3 y4 y5 y6 y7 y8 y9 y10 y11 y12 y13) (portageref0_SameRegs.j2 (k + 1) y0 y1 y2 y3 y4 y5 y6 y7 y8 y9 y10 y11 y12 y13)) ∧ (∀ y0 y1 y2 y3 y4 y5 y6 y7 y8 y9 y10 y11 y12 y13, LeO (portageref0_SameRegs.l1 k y0 y1 y2 y3 y4 y5 y6 y7 y8 y9 y10 y11 y12 y13) (portageref0_SameRegs.l1 (k + 1) y0 y1 y2 y3 y4 y5 y6 y7 y8 y9 y10 y11 y12 y13))
  | 0 => ⟨fun _ _ _ _ _ _ _ r h => by simp [portageref0_SameRegs.j0] at h, fun _ _ _ _ _ _ _ r h => by simp [portageref0_SameRegs.l0] at h, fun _ _ _ _ _ _ _ _ _ _ _ _ _ _ r h => by simp [portageref0_SameRegs.j2] at h, fun _ _ _ _ _ _ _ _ _ _ _ _ _ _ r h => by simp [portageref0_SameRegs.l1] at h⟩
  | k + 1 => by
    obtain ⟨ih0, ih1, ih2, ih3⟩ := portageref0_SameRegs.mono_l k
    refine ⟨?_, ?_, ?_, ?_⟩
    · intro y0 y1 y2 y3 y4 y5 y6
      unfold portageref0_SameRegs.j0
      repeat' first
      | (with_reducible exact ih0 _ _ _ _ _ _ _)
      | (with_reducible exact ih1 _ _ _ _ _ _ _)
      | (with_reducible exact ih2 _ _ _ _ _ _ _ _ _ _ _ _ _ _)
      | (with_reducible exact ih3 _ _ _ _ _ _ _ _ _ _ _ _ _ _)
      | (with_reducible exact portageref0_SameIns.mono _ _ _ _ _ _ _ _ _ _ _ _ _ _ _ _ _)
      | (with_reducible exact portageref0_SameInts.mono _ _ _)
      | (with_reducible exact LeO.refl _)
      | (with_reducible exact LeO.none _)
      | (with_reducible refine LeO.ite ?_ ?_)
      | (with_reducible refine LeO.bind ?_ (fun _ => ?_))
      | exact ih0 _ _ _ _ _ _ _
      | exact ih1 _ _ _ _ _ _ _
      | exact ih2 _ _ _ _ _ _ _ _ _ _ _ _ _ _
      | exact ih3 _ _ _ _ _ _ _ _ _ _ _ _ _ _
      | exact portageref0_SameIns.mono _ _ _ _ _ _ _ _ _ _ _ _ _ _ _ _ _
      | exact portageref0_SameInts.mono _ _ _
      | exact LeO.none _
      | refine LeO.ite ?_ ?_
      | refine LeO.bind ?_ (fun _ => ?_)
    · intro y0 y1 y2 y3 y4 y5 y6
      unfold portageref0_SameRegs.l0
      repeat' first
      | (with_reducible exact ih0 _ _ _ _ _ _ _)
      | (with_reducible exact ih1 _ _ _ _ _ _ _)
      | (with_reducible exact ih2 _ _ _ _ _ _ _ _ _ _ _ _ _ _)
      | (with_reducible exact ih3 _ _ _ _ _ _ _ _ _ _ _ _ _ _)
      | (with_reducible exact portageref0_SameIns.mono _ _ _ _ _ _ _ _ _ _ _ _ _ _ _ _ _)
      | (with_reducible exact portageref0_SameInts.mono _ _ _)
      | (with_reducible exact LeO.refl _)
      | (with_reducible exact LeO.none _)
      | (with_reducible refine LeO.ite ?_ ?_)
      | (with_reducible refine LeO.bind ?_ (fun _ => ?_))
      | exact ih0 _ _ _ _ _ _ _
      | exact ih1 _ _ _ _ _ _ _
      | exact ih2 _ _ _ _ _ _ _ _ _ _ _ _ _ _
      | exact ih3 _ _ _ _ _ _ _ _ _ _ _ _ _ _
      | exact portageref0_SameIns.mono _ _ _ _ _ _ _ _ _ _ _ _ _ _ _ _ _
      | exact portageref0_SameInts.mono _ _ _
      | exact LeO.none _
      | refine LeO.ite ?_ ?_
      | refine LeO.bind ?_ (fun _ => ?_)
    · intro y0 y1 y2 y3 y4 y5 y6 y7 y8 y9 y10 y11 y12 y13
      unfold portageref0_SameRegs.j2
      repeat' first
      | (with_reducible exact ih0 _ _ _ _ _ _ _)
      | (with_reducible exact ih1 _ _ _ _ _ _ _)
      | (with_reducible exact ih2 _ _ _ _ _ _ _ _ _ _ _ _ _ _)
      | (with_reducible exact ih3 _ _ _ _ _ _ _ _ _ _ _ _ _ _)
      | (with_reducible exact portageref0_SameIns.mono _ _ _ _ _ _ _ _ _ _ _ _ _ _ _ _ _)
      | (with_reducible exact portageref0_SameInts.mono _ _ _)
      | (with_reducible exact LeO.refl _)
      | (with_reducible exact LeO.none _)
      | (with_reducible refine LeO.ite ?_ ?_)
      | (with_reducible refine LeO.bind ?_ (fun _ => ?_))
      | exact ih0 _ _ _ _ _ _ _
      | exact ih1 _ _ _ _ _ _ _
      | exact ih2 _ _ _ _ _ _ _ _ _ _ _ _ _ _
      | exact ih3 _ _ _ _ _ _ _ _ _ _ _ _ _ _
      | exact portageref0_SameIns.mono _ _ _ _ _ _ _ _ _ _ _ _ _ _ _ _ _
      | exact portageref0_SameInts.mono _ _ _
      | exact LeO.none _
      | refine LeO.ite ?_ ?_
      | refine LeO.bind ?_ (fun _ => ?_)
    · intro y0 y1 y2 y3 y4 y5 y6 y7 y8 y9 y10 y11 y12 y13
      unfold portageref0_SameRegs.l1
      repeat' first
      | (with_reducible exact ih0 _ _ _ _ _ _ _)
      | (with_reducible exact ih1 _ _ _ _ _ _ _)
      | (with_reducible exact ih2 _ _ _ _ _ _ _ _ _ _ _ _ _ _)
      | (with_reducible exact ih3 _ _ _ _ _ _ _ _ _ _ _ _ _ _)
      | (with_reducible exact portageref0_SameIns.mono _ _ _ _ _ _ _ _ _ _ _ _ _ _ _ _ _)
      | (with_reducible exact portageref0_SameInts.mono _ _ _)
      | (with_reducible exact LeO.refl _)
      | (with_reducible exact LeO.none _)
      | (with_reducible refine LeO.ite ?_ ?_)
      | (with_reducible refine LeO.bind ?_ (fun _ => ?_))
      | exact ih0 _ _ _ _ _ _ _
      | exact ih1 _ _ _ _ _ _ _
      | exact ih2 _ _ _ _ _ _ _ _ _ _ _ _ _ _
      | exact ih3 _ _ _ _ _ _ _ _ _ _ _ _ _ _
      | exact portageref0_SameIns.mono _ _ _ _ _ _ _ _ _ _ _ _ _ _ _ _ _
      | exact portageref0_SameInts.mono _ _ _
      | exact LeO.none _
      | refine LeO.ite ?_ ?_
      | refine LeO.bind ?_ (fun _ => ?_)
theorem portageref0_SameRegs.mono : ∀ a0 a1 a2 a3 a4 a5 k, LeO (portageref0_SameRegs.f k a0 a1 a2 a3 a4 a5) (portageref0_SameRegs.f (k + 1) a0 a1 a2 a3 a4 a5) := by
  intro a0 a1 a2 a3 a4 a5 k
  obtain ⟨ih0, ih1, ih2, ih3⟩ := portageref0_SameRegs.mono_l k
  unfold portageref0_SameRegs.f
  repeat' first
      | (with_reducible exact ih0 _ _ _ _ _ _ _)
      | (with_reducible exact ih1 _ _ _ _ _ _ _)
      | (with_reducible exact ih2 _ _ _ _ _ _ _ _ _ _ _ _ _ _)
      | (with_reducible exact ih3 _ _ _ _ _ _ _ _ _ _ _ _ _ _)
      | (with_reducible exact portageref0_SameIns.mono _ _ _ _ _ _ _ _ _ _ _ _ _ _ _ _ _)
      | (with_reducible exact portageref0_SameInts.mono _ _ _)
      | (with_reducible exact LeO.refl _)
      | (with_reducible exact LeO.none _)
      | (with_reducible refine LeO.ite ?_ ?_)
      | (with_reducible refine LeO.bind ?_ (fun _ => ?_))
      | exact ih0 _ _ _ _ _ _ _
      | exact ih1 _ _ _ _ _ _ _
      | exact ih2 _ _ _ _ _ _ _ _ _ _ _ _ _ _
      | exact ih3 _ _ _ _ _ _ _ _ _ _ _ _ _ _
      | exact portageref0_SameIns.mono _ _ _ _ _ _ _ _ _ _ _ _ _ _ _ _ _
      | exact portageref0_SameInts.mono _ _ _
      | exact LeO.none _
      | refine LeO.ite ?_ ?_
      | refine LeO.bind ?_ (fun _ => ?_)
def portageref0_SameRegs.T13 : Bool × List (List Nat × List Nat) := (true, [([], []), ([0], [0]), ([], []), ([1, 2], [1, 2]), ([3], [3]), ([], []), ([5], [5]), ([], []), ([6, 7], [6, 7]), ([8], [8]), ([4, 9], [4, 9]), ([10], [10])])
def portageref0_SameRegs.B13 : List Nat := [0, 1, 0, 7, 15, 0, 32, 0, 224, 480, 1023, 2047]
theorem portageref0_SameRegs.tab13 : rtab .any (opsOf Try.f17 13) = portageref0_SameRegs.T13 := by kernel_rfl
theorem portageref0_SameRegs.bits13 : waitsOk portageref0_SameRegs.T13.2 portageref0_SameRegs.B13 = true := by kernel_rfl
set_option maxHeartbeats 8000000 in
set_option maxRecDepth 100000 in
theorem portageref0_SameRegs.calls (k : Nat) (a0_0 : Int) (a0_1 : Int) (A0_2 : Option Addr) (c0_2 : Nat) (l0_2 : List (S43)) (a1_0 : Int) (a1_1 : Int) (A1_2 : Option Addr) (c1_2 : Nat) (l1_2 : List (S43)) (r : Bool) (w : World) (hr0_2 : Kd.C k43 w A0_2 l0_2.length l0_2) (hc0_2 : l0_2.length ≤ c0_2) (hr1_2 : Kd.C k43 w A1_2 l1_2.length l1_2) (hc1_2 : l1_2.length ≤ c1_2) (h : portageref0_SameRegs.f k a0_0 a0_1 l0_2 a1_0 a1_1 l1_2 = some r) :
    Calls Try.prog 17 #[.agg #[.int .i64 a0_0, .int .i64 a0_1, .slice A0_2 l0_2.length c0_2], .agg #[.int .i64 a1_0, .int .i64 a1_1, .slice A1_2 l1_2.length c1_2]] w fun e w' => e = .returned (.bool r) ∧ Below w.heap.size w w' := by
  have hu24 := Try.underlying24
  have hu43 := Try.underlying43
  have hu47 := Try.underlying47
  have HR0_2 := Aside0.mk hr0_2
  have HC0_2 := Aside0.mk hc0_2
  clear hr0_2 hc0_2
  have HR1_2 := Aside0.mk hr1_2
  have HC1_2 := Aside0.mk hc1_2
  clear hr1_2 hc1_2
  have HB := Aside0.mk (Below.refl w.heap.size w)
  have H : (if a0_0 = a1_0 then (if a0_1 = a1_1 then (portageref0_SameRegs.j0 k ((l0_2.length : Int) != (l1_2.length : Int)) a0_0 a0_1 l0_2 a1_0 a1_1 l1_2) else (portageref0_SameRegs.j0 k true a0_0 a0_1 l0_2 a1_0 a1_1 l1_2)) else (portageref0_SameRegs.j0 k true a0_0 a0_1 l0_2 a1_0 a1_1 l1_2)) = some r := h
  clear h
  have HC3 := Aside0.mk H
  clear H
  go_enter Try.func17, Try.ntmps17
  go_upto_region 1 with (first | ((with_reducible refine gate_dst (N := 2) rfl ?_); (try (refine gate_guard (by rfl) ?_; dsimp only)); refine box_event ?hg (N := 2) ?hd (cs := #[.int .i64 a0_0, .int .i64 a0_1, .slice A0_2 l0_2.length c0_2]) (t := 24) ?hr ?_; (case hd => rfl); (case hg => rfl); (case hr => first | (go_simp; done) | (go_simp; rfl)); intro gb123 hg w4 hbox hb; have n0_ := Aside0.mk (below_step (by repeat (first | (with_reducible first | exact HB.out | apply below_alloc | apply pw_below_drewN | apply below_drew1) | exact HB.out)) hb); have n1_ := Aside0.mk (hbox); have n2_ := Aside0.mk ((by rw [hg]; exact (below_size (by repeat (first | (with_reducible first | exact HB.out | apply below_alloc | apply pw_below_drewN | apply below_drew1) | exact HB.out))) : w.heap.size ≤ gb123)); have n3_ := Aside0.mk ((by rw [hg]; exact (below_size (by repeat (first | (with_reducible first | exact HB.out | apply below_alloc | apply pw_below_drewN | apply below_drew1) | exact HB.out))) : w.heap.size ≤ gb123)); clear HB; have HB := n0_; have BK123 := n1_; have GW123 := n2_; have GE123 := n3_; clear n0_ n1_ n2_ n3_; clear hb hbox hg) | ((with_reducible refine gate_dst (N := 3) rfl ?_); (try (refine gate_guard (by rfl) ?_; dsimp only)); refine box_event ?hg (N := 3) ?hd (cs := #[.int .i64 a1_0, .int .i64 a1_1, .slice A1_2 l1_2.length c1_2]) (t := 24) ?hr ?_; (case hd => rfl); (case hg => rfl); (case hr => first | (go_simp; done) | (go_simp; rfl)); intro gb124 hg w5 hbox hb; have n0_ := Aside0.mk (blk_below (g := gb123) (o := .cells #[.int .i64 a0_0, .int .i64 a0_1, .slice A0_2 l0_2.length c0_2] 24 (0, 0)) (by (with_reducible repeat (first | refine blk_drewN ?_ _ | refine blk_drew ?_ | refine blk_alloc ?_ _)); exact BK123.out) hb); have n1_ := Aside0.mk (below_step (by repeat (first | (with_reducible first | exact HB.out | apply below_alloc | apply pw_below_drewN | apply below_drew1 | refine below_set ?_ GE123.out) | exact HB.out)) hb); have n2_ := Aside0.mk (hbox); have n3_ := Aside0.mk ((by rw [hg]; exact (below_size (by repeat (first | (with_reducible first | exact HB.out | apply below_alloc | apply pw_below_drewN | apply below_drew1 | refine below_set ?_ GE123.out) | exact HB.out))) : w.heap.size ≤ gb124)); have n4_ := Aside0.mk ((by rw [hg]; exact (below_size (by repeat (first | (with_reducible first | exact HB.out | apply below_alloc | apply pw_below_drewN | apply below_drew1 | refine below_set ?_ GE123.out) | exact HB.out))) : w.heap.size ≤ gb124)); have n5_ := Aside0.mk ((by rw [hg]; exact Nat.ne_of_lt (blk_lt (g := gb123) (o := .cells #[.int .i64 a0_0, .int .i64 a0_1, .slice A0_2 l0_2.length c0_2] 24 (0, 0)) (by (with_reducible repeat (first | refine blk_drewN ?_ _ | refine blk_drew ?_ | refine blk_alloc ?_ _)); exact BK123.out)) : gb123 ≠ gb124)); have n6_ := Aside0.mk ((by rw [hg]; exact Nat.ne_of_gt (blk_lt (g := gb123) (o := .cells #[.int .i64 a0_0, .int .i64 a0_1, .slice A0_2 l0_2.length c0_2] 24 (0, 0)) (by (with_reducible repeat (first | refine blk_drewN ?_ _ | refine blk_drew ?_ | refine blk_alloc ?_ _)); exact BK123.out)) : gb124 ≠ gb123)); clear BK123; clear HB; have BK123 := n0_; have HB := n1_; have BK124 := n2_; have GW124 := n3_; have GE124 := n4_; have NB123_124 := n5_; have NB124_123 := n6_; clear n0_ n1_ n2_ n3_ n4_ n5_ n6_; clear hb hbox hg))
  (try simp only [Act.put, List.setIfInBounds_toArray, List.set_cons_zero, List.set_cons_succ])
  go_cut [29] (fun v29 wc => ∃ (kq : Nat) (x29_2 : Bool), v29 = .bool x29_2 ∧ Aside0 (portageref0_SameRegs.j0 kq x29_2 a0_0 a0_1 l0_2 a1_0 a1_1 l1_2 = some r) ∧ Aside0 (kq ≤ k) ∧ Aside0 (wc.heap[gb123]? = some (.cells #[.int .i64 a0_0, .int .i64 a0_1, (.slice A0_2 l0_2.length c0_2)] 24 (0, 0))) ∧ Aside0 (wc.heap[gb124]? = some (.cells #[.int .i64 a1_0, .int .i64 a1_1, (.slice A1_2 l1_2.length c1_2)] 24 (0, 0))) ∧ Aside0 (Below w.heap.size w wc))
  case first =>
    have H := HC3.out
    clear HC3
    by_cases c6 : a0_0 = a1_0
    · rw [if_pos c6] at H
      have c6b0 : (a0_0 == a1_0) = true := beq_iff_eq.mpr c6
      have c6b1 : (a0_0 != a1_0) = false := bne_eq_false_iff_eq.mpr c6
      clear c6
      (first | rw [c6b0] | (simp only [i64_w, i32_w]; rw [c6b0]) | skip)
      by_cases c7 : a0_1 = a1_1
      · rw [if_pos c7] at H
        have c7b0 : (a0_1 == a1_1) = true := beq_iff_eq.mpr c7
        have c7b1 : (a0_1 != a1_1) = false := bne_eq_false_iff_eq.mpr c7
        clear c7
        have H' := Aside0.mk H
        clear H
        have hnb8 := NB123_124.out
        have hnc8 := NB124_123.out
        have hcz9_0 : w5.cell? ⟨gb123, 0, none⟩ = some (.int .i64 a0_0) := (blk_cell BK123.out 0).trans rfl
        have hcz9_1 : w5.cell? ⟨gb123, 1, none⟩ = some (.int .i64 a0_1) := (blk_cell BK123.out 1).trans rfl
        have hcz9_2 : w5.cell? ⟨gb123, 2, none⟩ = some (.slice A0_2 l0_2.length c0_2) := (blk_cell BK123.out 2).trans rfl
        have hfz9_0 := blk_frozen BK123.out 0
        have hfz9_1 := blk_frozen BK123.out 1
        have hfz9_2 := blk_frozen BK123.out 2
        have hcz10_0 : w5.cell? ⟨gb124, 0, none⟩ = some (.int .i64 a1_0) := (blk_cell BK124.out 0).trans rfl
        have hcz10_1 : w5.cell? ⟨gb124, 1, none⟩ = some (.int .i64 a1_1) := (blk_cell BK124.out 1).trans rfl
        have hcz10_2 : w5.cell? ⟨gb124, 2, none⟩ = some (.slice A1_2 l1_2.length c1_2) := (blk_cell BK124.out 2).trans rfl
        have hfz10_0 := blk_frozen BK124.out 0
        have hfz10_1 := blk_frozen BK124.out 1
        have hfz10_2 := blk_frozen BK124.out 2
        go_wp2
        go_meet
        case rel => exact ⟨_, (((l0_2.length : Int) != (l1_2.length : Int))), (by first | rfl | (simp; done) | (simp [*]; done)), H', ⟨by first | omega | exact Nat.le_refl _⟩, ⟨by (with_reducible repeat (first | refine blk_drewN ?_ _ | refine blk_drew ?_ | refine blk_alloc ?_ _)); exact BK123.out⟩, ⟨by (with_reducible repeat (first | refine blk_drewN ?_ _ | refine blk_drew ?_ | refine blk_alloc ?_ _)); exact BK124.out⟩, ⟨by repeat (first | (with_reducible first | exact HB.out | apply below_alloc | apply pw_below_drewN | apply below_drew1 | refine below_set ?_ GE123.out | refine below_set ?_ GE124.out) | exact HB.out)⟩⟩
      · rw [if_neg c7] at H
        have c7b0 : (a0_1 == a1_1) = false := beq_eq_false_iff_ne.mpr c7
        have c7b1 : (a0_1 != a1_1) = true := bne_iff_ne.mpr c7
        have H' := Aside0.mk H
        clear H
        have hnb11 := NB123_124.out
        have hnc11 := NB124_123.out
        have hcz12_0 : w5.cell? ⟨gb123, 0, none⟩ = some (.int .i64 a0_0) := (blk_cell BK123.out 0).trans rfl
        have hcz12_1 : w5.cell? ⟨gb123, 1, none⟩ = some (.int .i64 a0_1) := (blk_cell BK123.out 1).trans rfl
        have hcz12_2 : w5.cell? ⟨gb123, 2, none⟩ = some (.slice A0_2 l0_2.length c0_2) := (blk_cell BK123.out 2).trans rfl
        have hfz12_0 := blk_frozen BK123.out 0
        have hfz12_1 := blk_frozen BK123.out 1
        have hfz12_2 := blk_frozen BK123.out 2
        have hcz13_0 : w5.cell? ⟨gb124, 0, none⟩ = some (.int .i64 a1_0) := (blk_cell BK124.out 0).trans rfl
        have hcz13_1 : w5.cell? ⟨gb124, 1, none⟩ = some (.int .i64 a1_1) := (blk_cell BK124.out 1).trans rfl
        have hcz13_2 : w5.cell? ⟨gb124, 2, none⟩ = some (.slice A1_2 l1_2.length c1_2) := (blk_cell BK124.out 2).trans rfl
        have hfz13_0 := blk_frozen BK124.out 0
        have hfz13_1 := blk_frozen BK124.out 1
        have hfz13_2 := blk_frozen BK124.out 2
        go_wp2
        go_meet
        case rel => exact ⟨_, (true), (by first | rfl | (simp; done) | (simp [*]; done)), H', ⟨by first | omega | exact Nat.le_refl _⟩, ⟨by (with_reducible repeat (first | refine blk_drewN ?_ _ | refine blk_drew ?_ | refine blk_alloc ?_ _)); exact BK123.out⟩, ⟨by (with_reducible repeat (first | refine blk_drewN ?_ _ | refine blk_drew ?_ | refine blk_alloc ?_ _)); exact BK124.out⟩, ⟨by repeat (first | (with_reducible first | exact HB.out | apply below_alloc | apply pw_below_drewN | apply below_drew1 | refine below_set ?_ GE123.out | refine below_set ?_ GE124.out) | exact HB.out)⟩⟩
    · rw [if_neg c6] at H
      have c6b0 : (a0_0 == a1_0) = false := beq_eq_false_iff_ne.mpr c6
      have c6b1 : (a0_0 != a1_0) = true := bne_iff_ne.mpr c6
      (first | rw [c6b0] | (simp only [i64_w, i32_w]; rw [c6b0]) | skip)
      have H' := Aside0.mk H
      clear H
      have hnb14 := NB123_124.out
      have hnc14 := NB124_123.out
      have hcz15_0 : w5.cell? ⟨gb123, 0, none⟩ = some (.int .i64 a0_0) := (blk_cell BK123.out 0).trans rfl
      have hcz15_1 : w5.cell? ⟨gb123, 1, none⟩ = some (.int .i64 a0_1) := (blk_cell BK123.out 1).trans rfl
      have hcz15_2 : w5.cell? ⟨gb123, 2, none⟩ = some (.slice A0_2 l0_2.length c0_2) := (blk_cell BK123.out 2).trans rfl
      have hfz15_0 := blk_frozen BK123.out 0
      have hfz15_1 := blk_frozen BK123.out 1
      have hfz15_2 := blk_frozen BK123.out 2
      have hcz16_0 : w5.cell? ⟨gb124, 0, none⟩ = some (.int .i64 a1_0) := (blk_cell BK124.out 0).trans rfl
      have hcz16_1 : w5.cell? ⟨gb124, 1, none⟩ = some (.int .i64 a1_1) := (blk_cell BK124.out 1).trans rfl
      have hcz16_2 : w5.cell? ⟨gb124, 2, none⟩ = some (.slice A1_2 l1_2.length c1_2) := (blk_cell BK124.out 2).trans rfl
      have hfz16_0 := blk_frozen BK124.out 0
      have hfz16_1 := blk_frozen BK124.out 1
      have hfz16_2 := blk_frozen BK124.out 2
      go_wp2
      go_meet
      case rel => exact ⟨_, (true), (by first | rfl | (simp; done) | (simp [*]; done)), H', ⟨by first | omega | exact Nat.le_refl _⟩, ⟨by (with_reducible repeat (first | refine blk_drewN ?_ _ | refine blk_drew ?_ | refine blk_alloc ?_ _)); exact BK123.out⟩, ⟨by (with_reducible repeat (first | refine blk_drewN ?_ _ | refine blk_drew ?_ | refine blk_alloc ?_ _)); exact BK124.out⟩, ⟨by repeat (first | (with_reducible first | exact HB.out | apply below_alloc | apply pw_below_drewN | apply below_drew1 | refine below_set ?_ GE123.out | refine below_set ?_ GE124.out) | exact HB.out)⟩⟩
  case rest =>
    clear HC3
    try clear c1
    try clear p2
    try clear c6
    try clear c6b0
    try clear c6b1
    try clear c7
    try clear c7b0
    try clear c7b1
    try clear c8
    try clear c11
    try clear c14
    try clear hcz10_0
    try clear hcz10_1
    try clear hcz10_2
    try clear hcz12_0
    try clear hcz12_1
    try clear hcz12_2
    try clear hcz13_0
    try clear hcz13_1
    try clear hcz13_2
    try clear hcz15_0
    try clear hcz15_1
    try clear hcz15_2
    try clear hcz16_0
    try clear hcz16_1
    try clear hcz16_2
    try clear hcz9_0
    try clear hcz9_1
    try clear hcz9_2
    try clear hfz10_0
    try clear hfz10_1
    try clear hfz10_2
    try clear hfz12_0
    try clear hfz12_1
    try clear hfz12_2
    try clear hfz13_0
    try clear hfz13_1
    try clear hfz13_2
    try clear hfz15_0
    try clear hfz15_1
    try clear hfz15_2
    try clear hfz16_0
    try clear hfz16_1
    try clear hfz16_2
    try clear hfz9_0
    try clear hfz9_1
    try clear hfz9_2
    obtain ⟨kq, x29_2, rfl, HA, HJ2, BK123, BK124, HB⟩ := hcut
    cases kq with
    | zero => exact absurd HA.out (by simp [portageref0_SameRegs.j0])
    | succ kj2 =>
      have H := HA.out
      clear HA
      simp only [portageref0_SameRegs.j0] at H
      by_cases c17 : x29_2 = true
      · subst c17
        have H1 : (some false) = some r := by rw [if_pos rfl] at H; exact H
        clear H
        have H := H1
        clear H1
        obtain rfl := Option.some.inj H
        go_wp2
        go_ret
        exact ⟨by first | rfl | (simp [errW_none, errW_some] <;> rfl) | (simp [*, errW_none, errW_some] <;> rfl), by repeat (first | (with_reducible first | exact HB.out | apply below_alloc | apply pw_below_drewN | apply below_drew1 | refine below_set ?_ GE123.out | refine below_set ?_ GE124.out) | exact HB.out)⟩
      · replace c17 := Bool.eq_false_iff.mpr c17
        subst c17
        have H1 : (portageref0_SameRegs.l0 kj2 0 a0_0 a0_1 l0_2 a1_0 a1_1 l1_2) = some r := by rw [if_neg (show ¬ (false = true) by decide)] at H; exact H
        clear H
        have H := H1
        clear H1
        have H' := Aside0.mk H
        clear H
        go_wp2
        go_loopg [5] kj2 (fun kq v5 w' => ∃ (x5_2 : Int), v5 = .int .i64 x5_2 ∧ Aside0 (portageref0_SameRegs.l0 kq x5_2 a0_0 a0_1 l0_2 a1_0 a1_1 l1_2 = some r) ∧ Aside0 (kq ≤ kj2) ∧ Aside0 (w'.heap[gb123]? = some (.cells #[.int .i64 a0_0, .int .i64 a0_1, (.slice A0_2 l0_2.length c0_2)] 24 (0, 0))) ∧ Aside0 (w'.heap[gb124]? = some (.cells #[.int .i64 a1_0, .int .i64 a1_1, (.slice A1_2 l1_2.length c1_2)] 24 (0, 0))) ∧ Aside0 (Below w.heap.size w w'))
        case atStart => exact ⟨(0), (by first | rfl | (simp; done) | (simp [*]; done)), H', ⟨Nat.le_refl _⟩, ⟨by (with_reducible repeat (first | refine blk_drewN ?_ _ | refine blk_drew ?_ | refine blk_alloc ?_ _)); exact BK123.out⟩, ⟨by (with_reducible repeat (first | refine blk_drewN ?_ _ | refine blk_drew ?_ | refine blk_alloc ?_ _)); exact BK124.out⟩, ⟨by repeat (first | (with_reducible first | exact HB.out | apply below_alloc | apply pw_below_drewN | apply below_drew1 | refine below_set ?_ GE123.out | refine below_set ?_ GE124.out) | exact HB.out)⟩⟩
        case round =>
          clear H'
          try clear c1
          try clear p2
          try clear c6
          try clear c6b0
          try clear c6b1
          try clear c7
          try clear c7b0
          try clear c7b1
          try clear c8
          try clear c11
          try clear c14
          try clear c17
          try clear hcz10_0
          try clear hcz10_1
          try clear hcz10_2
          try clear hcz12_0
          try clear hcz12_1
          try clear hcz12_2
          try clear hcz13_0
          try clear hcz13_1
          try clear hcz13_2
          try clear hcz15_0
          try clear hcz15_1
          try clear hcz15_2
          try clear hcz16_0
          try clear hcz16_1
          try clear hcz16_2
          try clear hcz9_0
          try clear hcz9_1
          try clear hcz9_2
          try clear hfz10_0
          try clear hfz10_1
          try clear hfz10_2
          try clear hfz12_0
          try clear hfz12_1
          try clear hfz12_2
          try clear hfz13_0
          try clear hfz13_1
          try clear hfz13_2
          try clear hfz15_0
          try clear hfz15_1
          try clear hfz15_2
          try clear hfz16_0
          try clear hfz16_1
          try clear hfz16_2
          try clear hfz9_0
          try clear hfz9_1
          try clear hfz9_2
          try clear p2
          obtain ⟨x5_2, rfl, HA, HK2, BK123, BK124, HB⟩ := hrel
          cases gk with
          | zero => exact absurd HA.out (by simp [portageref0_SameRegs.l0])
          | succ k2 =>
            have H := HA.out
            clear HA
            simp only [portageref0_SameRegs.l0] at H
            by_cases c18 : x5_2 < (l0_2.length : Int)
            · rw [if_pos c18] at H
              have c18b0 : decide (x5_2 < (l0_2.length : Int)) = true := decide_eq_true c18
              clear c18
              by_cases c19 : 0 ≤ x5_2
              · rw [if_pos c19] at H
                have c19b0 : decide (0 ≤ x5_2) = true := decide_eq_true c19
                clear c19
                by_cases c20 : x5_2 < (l1_2.length : Int)
                · rw [if_pos c20] at H
                  have c20b0 : decide (x5_2 < (l1_2.length : Int)) = true := decide_eq_true c20
                  clear c20
                  have HC21 := Aside0.mk H
                  clear H
                  have hnb22 := NB123_124.out
                  have hnc22 := NB124_123.out
                  have hcz23_0 : wr.cell? ⟨gb123, 0, none⟩ = some (.int .i64 a0_0) := (blk_cell BK123.out 0).trans rfl
                  have hcz23_1 : wr.cell? ⟨gb123, 1, none⟩ = some (.int .i64 a0_1) := (blk_cell BK123.out 1).trans rfl
                  have hcz23_2 : wr.cell? ⟨gb123, 2, none⟩ = some (.slice A0_2 l0_2.length c0_2) := (blk_cell BK123.out 2).trans rfl
                  have hfz23_0 := blk_frozen BK123.out 0
                  have hfz23_1 := blk_frozen BK123.out 1
                  have hfz23_2 := blk_frozen BK123.out 2
                  have p125 : 0 ≤ (x5_2 : Int) := of_decide_eq_true (by first | (with_reducible assumption) | assumption)
                  have q125 : x5_2 < (l0_2.length : Int) := of_decide_eq_true (by first | (with_reducible assumption) | assumption)
                  obtain ⟨ad125, A125_1, c125_1, A125_2, c125_2, e125, hx125_0, hx125_1, hx125_2, hl125_1, hi125_1, hl125_2, hi125_2⟩ := at_T43 HR0_2.out x5_2 p125 q125
                  cases e125
                  replace hx125_0 := (HB.out.cell (World.block_lt_of_cell? w _ hx125_0)).trans hx125_0
                  replace hx125_1 := (HB.out.cell (World.block_lt_of_cell? w _ hx125_1)).trans hx125_1
                  replace hx125_2 := (HB.out.cell (World.block_lt_of_cell? w _ hx125_2)).trans hx125_2
                  have HR125_1 := Aside0.mk hi125_1
                  have HC125_1 := Aside0.mk hl125_1
                  clear hi125_1 hl125_1
                  have HR125_2 := Aside0.mk hi125_2
                  have HC125_2 := Aside0.mk hl125_2
                  clear hi125_2 hl125_2
                  replace p125 := eq_true p125
                  replace q125 := eq_true q125
                  go_upto_region 8 with (first | ((with_reducible refine gate_dst (N := 6) rfl ?_); (try (refine gate_guard (by rfl) ?_; dsimp only)); refine box_event ?hg (N := 6) ?hd (cs := #[.int .i64 0, .slice none 0 0, .slice none 0 0]) (t := 43) ?hr ?_; (case hd => rfl); (case hg => rfl); (case hr => first | (go_simp; done) | (go_simp; rfl)); intro gb126 hg w24 hbox hb; have n0_ := Aside0.mk (blk_below (g := gb123) (o := .cells #[.int .i64 a0_0, .int .i64 a0_1, .slice (some ad125) l0_2.length c0_2] 24 (0, 0)) (by (with_reducible repeat (first | refine blk_drewN ?_ _ | refine blk_drew ?_ | refine blk_alloc ?_ _)); exact BK123.out) hb); have n1_ := Aside0.mk (blk_below (g := gb124) (o := .cells #[.int .i64 a1_0, .int .i64 a1_1, .slice A1_2 l1_2.length c1_2] 24 (0, 0)) (by (with_reducible repeat (first | refine blk_drewN ?_ _ | refine blk_drew ?_ | refine blk_alloc ?_ _)); exact BK124.out) hb); have n2_ := Aside0.mk (below_step (by repeat (first | (with_reducible first | exact HB.out | apply below_alloc | apply pw_below_drewN | apply below_drew1 | refine below_set ?_ GE123.out | refine below_set ?_ GE124.out) | exact HB.out)) hb); have n3_ := Aside0.mk (hbox); have n4_ := Aside0.mk ((by rw [hg]; exact (below_size (by repeat (first | (with_reducible first | exact HB.out | apply below_alloc | apply pw_below_drewN | apply below_drew1 | refine below_set ?_ GE123.out | refine below_set ?_ GE124.out) | exact HB.out))) : w.heap.size ≤ gb126)); have n5_ := Aside0.mk ((by rw [hg]; exact (below_size (by repeat (first | (with_reducible first | exact HB.out | apply below_alloc | apply pw_below_drewN | apply below_drew1 | refine below_set ?_ GE123.out | refine below_set ?_ GE124.out) | exact HB.out))) : w.heap.size ≤ gb126)); have n6_ := Aside0.mk ((by rw [hg]; exact Nat.ne_of_lt (blk_lt (g := gb123) (o := .cells #[.int .i64 a0_0, .int .i64 a0_1, .slice (some ad125) l0_2.length c0_2] 24 (0, 0)) (by (with_reducible repeat (first | refine blk_drewN ?_ _ | refine blk_drew ?_ | refine blk_alloc ?_ _)); exact BK123.out)) : gb123 ≠ gb126)); have n7_ := Aside0.mk ((by rw [hg]; exact Nat.ne_of_gt (blk_lt (g := gb123) (o := .cells #[.int .i64 a0_0, .int .i64 a0_1, .slice (some ad125) l0_2.length c0_2] 24 (0, 0)) (by (with_reducible repeat (first | refine blk_drewN ?_ _ | refine blk_drew ?_ | refine blk_alloc ?_ _)); exact BK123.out)) : gb126 ≠ gb123)); have n8_ := Aside0.mk ((by rw [hg]; exact Nat.ne_of_lt (blk_lt (g := gb124) (o := .cells #[.int .i64 a1_0, .int .i64 a1_1, .slice A1_2 l1_2.length c1_2] 24 (0, 0)) (by (with_reducible repeat (first | refine blk_drewN ?_ _ | refine blk_drew ?_ | refine blk_alloc ?_ _)); exact BK124.out)) : gb124 ≠ gb126)); have n9_ := Aside0.mk ((by rw [hg]; exact Nat.ne_of_gt (blk_lt (g := gb124) (o := .cells #[.int .i64 a1_0, .int .i64 a1_1, .slice A1_2 l1_2.length c1_2] 24 (0, 0)) (by (with_reducible repeat (first | refine blk_drewN ?_ _ | refine blk_drew ?_ | refine blk_alloc ?_ _)); exact BK124.out)) : gb126 ≠ gb124)); clear BK123; clear BK124; clear HB; have BK123 := n0_; have BK124 := n1_; have HB := n2_; have BK126 := n3_; have GW126 := n4_; have GE126 := n5_; have NB123_126 := n6_; have NB126_123 := n7_; have NB124_126 := n8_; have NB126_124 := n9_; clear n0_ n1_ n2_ n3_ n4_ n5_ n6_ n7_ n8_ n9_; clear hb hbox hg; have hnb25 := NB126_123.out; have hnc25 := NB123_126.out; have hnb26 := NB126_124.out; have hnc26 := NB124_126.out; have hcz27_0 : w24.cell? ⟨gb126, 0, none⟩ = some (.int .i64 0) := (blk_cell BK126.out 0).trans rfl; have hcz27_1 : w24.cell? ⟨gb126, 1, none⟩ = some (.slice none 0 0) := (blk_cell BK126.out 1).trans rfl; have hcz27_2 : w24.cell? ⟨gb126, 2, none⟩ = some (.slice none 0 0) := (blk_cell BK126.out 2).trans rfl; have hfz27_0 := blk_frozen BK126.out 0; have hfz27_1 := blk_frozen BK126.out 1; have hfz27_2 := blk_frozen BK126.out 2; have hcz28_0 : w24.cell? ⟨gb124, 0, none⟩ = some (.int .i64 a1_0) := (blk_cell BK124.out 0).trans rfl; have hcz28_1 : w24.cell? ⟨gb124, 1, none⟩ = some (.int .i64 a1_1) := (blk_cell BK124.out 1).trans rfl; have hcz28_2 : w24.cell? ⟨gb124, 2, none⟩ = some (.slice A1_2 l1_2.length c1_2) := (blk_cell BK124.out 2).trans rfl; have hfz28_0 := blk_frozen BK124.out 0; have hfz28_1 := blk_frozen BK124.out 1; have hfz28_2 := blk_frozen BK124.out 2; have p127 : 0 ≤ (x5_2 : Int) := of_decide_eq_true (by first | (with_reducible assumption) | assumption); have q127 : x5_2 < (l1_2.length : Int) := of_decide_eq_true (by first | (with_reducible assumption) | assumption); obtain ⟨ad127, A127_1, c127_1, A127_2, c127_2, e127, hx127_0, hx127_1, hx127_2, hl127_1, hi127_1, hl127_2, hi127_2⟩ := at_T43 HR1_2.out x5_2 p127 q127; cases e127; have hn127_0 : ad127.block ≠ gb126 := Nat.ne_of_lt (Nat.lt_of_lt_of_le (by have := World.block_lt_of_cell? _ _ hx127_0; first | rwa [add_block] at this | exact this) GW126.out); have hn127_1 : ad127.block ≠ gb126 := Nat.ne_of_lt (Nat.lt_of_lt_of_le (by have := World.block_lt_of_cell? _ _ hx127_0; first | rwa [add_block] at this | exact this) GW126.out); have hn127_2 : ad127.block ≠ gb126 := Nat.ne_of_lt (Nat.lt_of_lt_of_le (by have := World.block_lt_of_cell? _ _ hx127_0; first | rwa [add_block] at this | exact this) GW126.out); replace hx127_0 := (HB.out.cell (World.block_lt_of_cell? w _ hx127_0)).trans hx127_0; replace hx127_1 := (HB.out.cell (World.block_lt_of_cell? w _ hx127_1)).trans hx127_1; replace hx127_2 := (HB.out.cell (World.block_lt_of_cell? w _ hx127_2)).trans hx127_2; have HR127_1 := Aside0.mk hi127_1; have HC127_1 := Aside0.mk hl127_1; clear hi127_1 hl127_1; have HR127_2 := Aside0.mk hi127_2; have HC127_2 := Aside0.mk hl127_2; clear hi127_2 hl127_2; replace hx127_0 := (cell_far (p := ⟨gb126, 0, none⟩) (by first | (rw [add_block]; exact hn127_0) | (show (Addr.add _ _).block ≠ _; rw [add_block]; exact hn127_0) | exact hn127_0) (.int .i64 ((rd_T43 l0_2 x5_2).f0))).trans hx127_0; replace hx127_1 := (cell_far (p := ⟨gb126, 0, none⟩) (by first | (rw [add_block]; exact hn127_0) | (show (Addr.add _ _).block ≠ _; rw [add_block]; exact hn127_0) | exact hn127_0) (.int .i64 ((rd_T43 l0_2 x5_2).f0))).trans hx127_1; replace hx127_2 := (cell_far (p := ⟨gb126, 0, none⟩) (by first | (rw [add_block]; exact hn127_0) | (show (Addr.add _ _).block ≠ _; rw [add_block]; exact hn127_0) | exact hn127_0) (.int .i64 ((rd_T43 l0_2 x5_2).f0))).trans hx127_2; replace hx127_0 := (cell_far (p := ⟨gb126, 1, none⟩) (by first | (rw [add_block]; exact hn127_1) | (show (Addr.add _ _).block ≠ _; rw [add_block]; exact hn127_1) | exact hn127_1) (.slice A125_1 ((rd_T43 l0_2 x5_2).f1).length c125_1)).trans hx127_0; replace hx127_1 := (cell_far (p := ⟨gb126, 1, none⟩) (by first | (rw [add_block]; exact hn127_1) | (show (Addr.add _ _).block ≠ _; rw [add_block]; exact hn127_1) | exact hn127_1) (.slice A125_1 ((rd_T43 l0_2 x5_2).f1).length c125_1)).trans hx127_1; replace hx127_2 := (cell_far (p := ⟨gb126, 1, none⟩) (by first | (rw [add_block]; exact hn127_1) | (show (Addr.add _ _).block ≠ _; rw [add_block]; exact hn127_1) | exact hn127_1) (.slice A125_1 ((rd_T43 l0_2 x5_2).f1).length c125_1)).trans hx127_2; replace hx127_0 := (cell_far (p := ⟨gb126, 2, none⟩) (by first | (rw [add_block]; exact hn127_2) | (show (Addr.add _ _).block ≠ _; rw [add_block]; exact hn127_2) | exact hn127_2) (.slice A125_2 ((rd_T43 l0_2 x5_2).f2).length c125_2)).trans hx127_0; replace hx127_1 := (cell_far (p := ⟨gb126, 2, none⟩) (by first | (rw [add_block]; exact hn127_2) | (show (Addr.add _ _).block ≠ _; rw [add_block]; exact hn127_2) | exact hn127_2) (.slice A125_2 ((rd_T43 l0_2 x5_2).f2).length c125_2)).trans hx127_1; replace hx127_2 := (cell_far (p := ⟨gb126, 2, none⟩) (by first | (rw [add_block]; exact hn127_2) | (show (Addr.add _ _).block ≠ _; rw [add_block]; exact hn127_2) | exact hn127_2) (.slice A125_2 ((rd_T43 l0_2 x5_2).f2).length c125_2)).trans hx127_2; clear hn127_0; clear hn127_1; clear hn127_2; replace p127 := eq_true p127; replace q127 := eq_true q127) | ((with_reducible refine gate_dst (N := 7) rfl ?_); (try (refine gate_guard (by rfl) ?_; dsimp only)); refine box_event ?hg (N := 7) ?hd (cs := #[.int .i64 0, .slice none 0 0, .slice none 0 0]) (t := 43) ?hr ?_; (case hd => rfl); (case hg => rfl); (case hr => first | (go_simp; done) | (go_simp; rfl)); intro gb128 hg w29 hbox hb; have n0_ := Aside0.mk (blk_below (g := gb123) (o := .cells #[.int .i64 a0_0, .int .i64 a0_1, .slice (some ad125) l0_2.length c0_2] 24 (0, 0)) (by (with_reducible repeat (first | refine blk_drewN ?_ _ | refine blk_drew ?_ | refine blk_alloc ?_ _)); refine blk_far ?_ NB123_126.out _; (with_reducible repeat (first | refine blk_drewN ?_ _ | refine blk_drew ?_ | refine blk_alloc ?_ _)); refine blk_far ?_ NB123_126.out _; (with_reducible repeat (first | refine blk_drewN ?_ _ | refine blk_drew ?_ | refine blk_alloc ?_ _)); refine blk_far ?_ NB123_126.out _; (with_reducible repeat (first | refine blk_drewN ?_ _ | refine blk_drew ?_ | refine blk_alloc ?_ _)); exact BK123.out) hb); have n1_ := Aside0.mk (blk_below (g := gb124) (o := .cells #[.int .i64 a1_0, .int .i64 a1_1, .slice (some ad127) l1_2.length c1_2] 24 (0, 0)) (by (with_reducible repeat (first | refine blk_drewN ?_ _ | refine blk_drew ?_ | refine blk_alloc ?_ _)); refine blk_far ?_ NB124_126.out _; (with_reducible repeat (first | refine blk_drewN ?_ _ | refine blk_drew ?_ | refine blk_alloc ?_ _)); refine blk_far ?_ NB124_126.out _; (with_reducible repeat (first | refine blk_drewN ?_ _ | refine blk_drew ?_ | refine blk_alloc ?_ _)); refine blk_far ?_ NB124_126.out _; (with_reducible repeat (first | refine blk_drewN ?_ _ | refine blk_drew ?_ | refine blk_alloc ?_ _)); exact BK124.out) hb); have n2_ := Aside0.mk (blk_below (g := gb126) (o := .cells #[.int .i64 ((rd_T43 l0_2 x5_2).f0), .slice A125_1 ((rd_T43 l0_2 x5_2).f1).length c125_1, .slice A125_2 ((rd_T43 l0_2 x5_2).f2).length c125_2] 43 (0, 0)) (by (with_reducible repeat (first | refine blk_drewN ?_ _ | refine blk_drew ?_ | refine blk_alloc ?_ _)); refine blk_put (cs := #[.int .i64 ((rd_T43 l0_2 x5_2).f0), .slice A125_1 ((rd_T43 l0_2 x5_2).f1).length c125_1, .slice none 0 0]) ?_ 2 _ rfl; (with_reducible repeat (first | refine blk_drewN ?_ _ | refine blk_drew ?_ | refine blk_alloc ?_ _)); refine blk_put (cs := #[.int .i64 ((rd_T43 l0_2 x5_2).f0), .slice none 0 0, .slice none 0 0]) ?_ 1 _ rfl; (with_reducible repeat (first | refine blk_drewN ?_ _ | refine blk_drew ?_ | refine blk_alloc ?_ _)); refine blk_put (cs := #[.int .i64 0, .slice none 0 0, .slice none 0 0]) ?_ 0 _ rfl; (with_reducible repeat (first | refine blk_drewN ?_ _ | refine blk_drew ?_ | refine blk_alloc ?_ _)); exact BK126.out) hb); have n3_ := Aside0.mk (below_step (by repeat (first | (with_reducible first | exact HB.out | apply below_alloc | apply pw_below_drewN | apply below_drew1 | refine below_set ?_ GE123.out | refine below_set ?_ GE124.out | refine below_set ?_ GE126.out) | exact HB.out)) hb); have n4_ := Aside0.mk (hbox); have n5_ := Aside0.mk ((by rw [hg]; exact (below_size (by repeat (first | (with_reducible first | exact HB.out | apply below_alloc | apply pw_below_drewN | apply below_drew1 | refine below_set ?_ GE123.out | refine below_set ?_ GE124.out | refine below_set ?_ GE126.out) | exact HB.out))) : w.heap.size ≤ gb128)); have n6_ := Aside0.mk ((by rw [hg]; exact (below_size (by repeat (first | (with_reducible first | exact HB.out | apply below_alloc | apply pw_below_drewN | apply below_drew1 | refine below_set ?_ GE123.out | refine below_set ?_ GE124.out | refine below_set ?_ GE126.out) | exact HB.out))) : w.heap.size ≤ gb128)); have n7_ := Aside0.mk ((by rw [hg]; exact Nat.ne_of_lt (blk_lt (g := gb123) (o := .cells #[.int .i64 a0_0, .int .i64 a0_1, .slice (some ad125) l0_2.length c0_2] 24 (0, 0)) (by (with_reducible repeat (first | refine blk_drewN ?_ _ | refine blk_drew ?_ | refine blk_alloc ?_ _)); refine blk_far ?_ NB123_126.out _; (with_reducible repeat (first | refine blk_drewN ?_ _ | refine blk_drew ?_ | refine blk_alloc ?_ _)); refine blk_far ?_ NB123_126.out _; (with_reducible repeat (first | refine blk_drewN ?_ _ | refine blk_drew ?_ | refine blk_alloc ?_ _)); refine blk_far ?_ NB123_126.out _; (with_reducible repeat (first | refine blk_drewN ?_ _ | refine blk_drew ?_ | refine blk_alloc ?_ _)); exact BK123.out)) : gb123 ≠ gb128)); have n8_ := Aside0.mk ((by rw [hg]; exact Nat.ne_of_gt (blk_lt (g := gb123) (o := .cells #[.int .i64 a0_0, .int .i64 a0_1, .slice (some ad125) l0_2.length c0_2] 24 (0, 0)) (by (with_reducible repeat (first | refine blk_drewN ?_ _ | refine blk_drew ?_ | refine blk_alloc ?_ _)); refine blk_far ?_ NB123_126.out _; (with_reducible repeat (first | refine blk_drewN ?_ _ | refine blk_drew ?_ | refine blk_alloc ?_ _)); refine blk_far ?_ NB123_126.out _; (with_reducible repeat (first | refine blk_drewN ?_ _ | refine blk_drew ?_ | refine blk_alloc ?_ _)); refine blk_far ?_ NB123_126.out _; (with_reducible repeat (first | refine blk_drewN ?_ _ | refine blk_drew ?_ | refine blk_alloc ?_ _)); exact BK123.out)) : gb128 ≠ gb123)); have n9_ := Aside0.mk ((by rw [hg]; exact Nat.ne_of_lt (blk_lt (g := gb124) (o := .cells #[.int .i64 a1_0, .int .i64 a1_1, .slice (some ad127) l1_2.length c1_2] 24 (0, 0)) (by (with_reducible repeat (first | refine blk_drewN ?_ _ | refine blk_drew ?_ | refine blk_alloc ?_ _)); refine blk_far ?_ NB124_126.out _; (with_reducible repeat (first | refine blk_drewN ?_ _ | refine blk_drew ?_ | refine blk_alloc ?_ _)); refine blk_far ?_ NB124_126.out _; (with_reducible repeat (first | refine blk_drewN ?_ _ | refine blk_drew ?_ | refine blk_alloc ?_ _)); refine blk_far ?_ NB124_126.out _; (with_reducible repeat (first | refine blk_drewN ?_ _ | refine blk_drew ?_ | refine blk_alloc ?_ _)); exact BK124.out)) : gb124 ≠ gb128)); have n10_ := Aside0.mk ((by rw [hg]; exact Nat.ne_of_gt (blk_lt (g := gb124) (o := .cells #[.int .i64 a1_0, .int .i64 a1_1, .slice (some ad127) l1_2.length c1_2] 24 (0, 0)) (by (with_reducible repeat (first | refine blk_drewN ?_ _ | refine blk_drew ?_ | refine blk_alloc ?_ _)); refine blk_far ?_ NB124_126.out _; (with_reducible repeat (first | refine blk_drewN ?_ _ | refine blk_drew ?_ | refine blk_alloc ?_ _)); refine blk_far ?_ NB124_126.out _; (with_reducible repeat (first | refine blk_drewN ?_ _ | refine blk_drew ?_ | refine blk_alloc ?_ _)); refine blk_far ?_ NB124_126.out _; (with_reducible repeat (first | refine blk_drewN ?_ _ | refine blk_drew ?_ | refine blk_alloc ?_ _)); exact BK124.out)) : gb128 ≠ gb124)); have n11_ := Aside0.mk ((by rw [hg]; exact Nat.ne_of_lt (blk_lt (g := gb126) (o := .cells #[.int .i64 ((rd_T43 l0_2 x5_2).f0), .slice A125_1 ((rd_T43 l0_2 x5_2).f1).length c125_1, .slice A125_2 ((rd_T43 l0_2 x5_2).f2).length c125_2] 43 (0, 0)) (by (with_reducible repeat (first | refine blk_drewN ?_ _ | refine blk_drew ?_ | refine blk_alloc ?_ _)); refine blk_put (cs := #[.int .i64 ((rd_T43 l0_2 x5_2).f0), .slice A125_1 ((rd_T43 l0_2 x5_2).f1).length c125_1, .slice none 0 0]) ?_ 2 _ rfl; (with_reducible repeat (first | refine blk_drewN ?_ _ | refine blk_drew ?_ | refine blk_alloc ?_ _)); refine blk_put (cs := #[.int .i64 ((rd_T43 l0_2 x5_2).f0), .slice none 0 0, .slice none 0 0]) ?_ 1 _ rfl; (with_reducible repeat (first | refine blk_drewN ?_ _ | refine blk_drew ?_ | refine blk_alloc ?_ _)); refine blk_put (cs := #[.int .i64 0, .slice none 0 0, .slice none 0 0]) ?_ 0 _ rfl; (with_reducible repeat (first | refine blk_drewN ?_ _ | refine blk_drew ?_ | refine blk_alloc ?_ _)); exact BK126.out)) : gb126 ≠ gb128)); have n12_ := Aside0.mk ((by rw [hg]; exact Nat.ne_of_gt (blk_lt (g := gb126) (o := .cells #[.int .i64 ((rd_T43 l0_2 x5_2).f0), .slice A125_1 ((rd_T43 l0_2 x5_2).f1).length c125_1, .slice A125_2 ((rd_T43 l0_2 x5_2).f2).length c125_2] 43 (0, 0)) (by (with_reducible repeat (first | refine blk_drewN ?_ _ | refine blk_drew ?_ | refine blk_alloc ?_ _)); refine blk_put (cs := #[.int .i64 ((rd_T43 l0_2 x5_2).f0), .slice A125_1 ((rd_T43 l0_2 x5_2).f1).length c125_1, .slice none 0 0]) ?_ 2 _ rfl; (with_reducible repeat (first | refine blk_drewN ?_ _ | refine blk_drew ?_ | refine blk_alloc ?_ _)); refine blk_put (cs := #[.int .i64 ((rd_T43 l0_2 x5_2).f0), .slice none 0 0, .slice none 0 0]) ?_ 1 _ rfl; (with_reducible repeat (first | refine blk_drewN ?_ _ | refine blk_drew ?_ | refine blk_alloc ?_ _)); refine blk_put (cs := #[.int .i64 0, .slice none 0 0, .slice none 0 0]) ?_ 0 _ rfl; (with_reducible repeat (first | refine blk_drewN ?_ _ | refine blk_drew ?_ | refine blk_alloc ?_ _)); exact BK126.out)) : gb128 ≠ gb126)); clear BK123; clear BK124; clear BK126; clear HB; have BK123 := n0_; have BK124 := n1_; have BK126 := n2_; have HB := n3_; have BK128 := n4_; have GW128 := n5_; have GE128 := n6_; have NB123_128 := n7_; have NB128_123 := n8_; have NB124_128 := n9_; have NB128_124 := n10_; have NB126_128 := n11_; have NB128_126 := n12_; clear n0_ n1_ n2_ n3_ n4_ n5_ n6_ n7_ n8_ n9_ n10_ n11_ n12_; clear hb hbox hg; have hnb30 := NB128_123.out; have hnc30 := NB123_128.out; have hnb31 := NB128_124.out; have hnc31 := NB124_128.out; have hnb32 := NB128_126.out; have hnc32 := NB126_128.out; have hcz33_0 : w29.cell? ⟨gb128, 0, none⟩ = some (.int .i64 0) := (blk_cell BK128.out 0).trans rfl; have hcz33_1 : w29.cell? ⟨gb128, 1, none⟩ = some (.slice none 0 0) := (blk_cell BK128.out 1).trans rfl; have hcz33_2 : w29.cell? ⟨gb128, 2, none⟩ = some (.slice none 0 0) := (blk_cell BK128.out 2).trans rfl; have hfz33_0 := blk_frozen BK128.out 0; have hfz33_1 := blk_frozen BK128.out 1; have hfz33_2 := blk_frozen BK128.out 2))
                  (try simp only [Act.put, List.setIfInBounds_toArray, List.set_cons_zero, List.set_cons_succ])
                  go_cut [68] (fun v68 wc => ∃ (kq : Nat) (x68_20 : Bool), v68 = .bool x68_20 ∧ Aside0 (portageref0_SameRegs.j2 kq x5_2 x68_20 a0_0 a0_1 l0_2 a1_0 a1_1 l1_2 ((rd_T43 l0_2 x5_2).f0) ((rd_T43 l0_2 x5_2).f1) ((rd_T43 l0_2 x5_2).f2) ((rd_T43 l1_2 x5_2).f0) ((rd_T43 l1_2 x5_2).f1) ((rd_T43 l1_2 x5_2).f2) = some r) ∧ Aside0 (kq ≤ k2) ∧ Aside0 (wc.heap[gb123]? = some (.cells #[.int .i64 a0_0, .int .i64 a0_1, (.slice (some ad125) l0_2.length c0_2)] 24 (0, 0))) ∧ Aside0 (wc.heap[gb124]? = some (.cells #[.int .i64 a1_0, .int .i64 a1_1, (.slice (some ad127) l1_2.length c1_2)] 24 (0, 0))) ∧ Aside0 (wc.heap[gb126]? = some (.cells #[.int .i64 ((rd_T43 l0_2 x5_2).f0), (.slice A125_1 ((rd_T43 l0_2 x5_2).f1).length c125_1), (.slice A125_2 ((rd_T43 l0_2 x5_2).f2).length c125_2)] 43 (0, 0))) ∧ Aside0 (wc.heap[gb128]? = some (.cells #[.int .i64 ((rd_T43 l1_2 x5_2).f0), (.slice A127_1 ((rd_T43 l1_2 x5_2).f1).length c127_1), (.slice A127_2 ((rd_T43 l1_2 x5_2).f2).length c127_2)] 43 (0, 0))) ∧ Aside0 (Below w.heap.size w wc))
                  case first =>
                    have H := HC21.out
                    clear HC21
                    by_cases c34 : ((rd_T43 l0_2 x5_2).f0) = ((rd_T43 l1_2 x5_2).f0)
                    · rw [if_pos c34] at H
                      have c34b0 : (((rd_T43 l0_2 x5_2).f0) == ((rd_T43 l1_2 x5_2).f0)) = true := beq_iff_eq.mpr c34
                      have c34b1 : (((rd_T43 l0_2 x5_2).f0) != ((rd_T43 l1_2 x5_2).f0)) = false := bne_eq_false_iff_eq.mpr c34
                      clear c34
                      (first | rw [c34b0] | (simp only [i64_w, i32_w]; rw [c34b0]) | skip)
                      replace H := Option.bind_eq_some_iff.mp H
                      obtain ⟨t129, A350, H⟩ := H
                      replace H : (if t129 = true then (portageref0_SameRegs.j2 k2 x5_2 ((((rd_T43 l0_2 x5_2).f1).length : Int) != (((rd_T43 l1_2 x5_2).f1).length : Int)) a0_0 a0_1 l0_2 a1_0 a1_1 l1_2 ((rd_T43 l0_2 x5_2).f0) ((rd_T43 l0_2 x5_2).f1) ((rd_T43 l0_2 x5_2).f2) ((rd_T43 l1_2 x5_2).f0) ((rd_T43 l1_2 x5_2).f1) ((rd_T43 l1_2 x5_2).f2)) else (portageref0_SameRegs.j2 k2 x5_2 true a0_0 a0_1 l0_2 a1_0 a1_1 l1_2 ((rd_T43 l0_2 x5_2).f0) ((rd_T43 l0_2 x5_2).f1) ((rd_T43 l0_2 x5_2).f2) ((rd_T43 l1_2 x5_2).f0) ((rd_T43 l1_2 x5_2).f1) ((rd_T43 l1_2 x5_2).f2))) = some r := H
                      have A35 := Aside0.mk A350
                      clear A350
                      by_cases c36 : t129 = true
                      · subst c36
                        have H1 : (portageref0_SameRegs.j2 k2 x5_2 ((((rd_T43 l0_2 x5_2).f1).length : Int) != (((rd_T43 l1_2 x5_2).f1).length : Int)) a0_0 a0_1 l0_2 a1_0 a1_1 l1_2 ((rd_T43 l0_2 x5_2).f0) ((rd_T43 l0_2 x5_2).f1) ((rd_T43 l0_2 x5_2).f2) ((rd_T43 l1_2 x5_2).f0) ((rd_T43 l1_2 x5_2).f1) ((rd_T43 l1_2 x5_2).f2)) = some r := by rw [if_pos rfl] at H; exact H
                        clear H
                        have H := H1
                        clear H1
                        have H' := Aside0.mk H
                        clear H
                        have hnb37 := NB126_123.out
                        have hnc37 := NB123_126.out
                        have hnb38 := NB126_124.out
                        have hnc38 := NB124_126.out
                        have hnb39 := NB126_128.out
                        have hnc39 := NB128_126.out
                        have hcz40_0 : w29.cell? ⟨gb126, 0, none⟩ = some (.int .i64 ((rd_T43 l0_2 x5_2).f0)) := (blk_cell BK126.out 0).trans rfl
                        have hcz40_1 : w29.cell? ⟨gb126, 1, none⟩ = some (.slice A125_1 ((rd_T43 l0_2 x5_2).f1).length c125_1) := (blk_cell BK126.out 1).trans rfl
                        have hcz40_2 : w29.cell? ⟨gb126, 2, none⟩ = some (.slice A125_2 ((rd_T43 l0_2 x5_2).f2).length c125_2) := (blk_cell BK126.out 2).trans rfl
                        have hfz40_0 := blk_frozen BK126.out 0
                        have hfz40_1 := blk_frozen BK126.out 1
                        have hfz40_2 := blk_frozen BK126.out 2
                        have hnb41 := NB128_123.out
                        have hnc41 := NB123_128.out
                        have hnb42 := NB128_124.out
                        have hnc42 := NB124_128.out
                        have hcz43_0 : w29.cell? ⟨gb128, 0, none⟩ = some (.int .i64 0) := (blk_cell BK128.out 0).trans rfl
                        have hcz43_1 : w29.cell? ⟨gb128, 1, none⟩ = some (.slice none 0 0) := (blk_cell BK128.out 1).trans rfl
                        have hcz43_2 : w29.cell? ⟨gb128, 2, none⟩ = some (.slice none 0 0) := (blk_cell BK128.out 2).trans rfl
                        have hfz43_0 := blk_frozen BK128.out 0
                        have hfz43_1 := blk_frozen BK128.out 1
                        have hfz43_2 := blk_frozen BK128.out 2
                        go_wp2_with (first | (go_at_call 12; (with_reducible refine (portageref0_SameInts.calls k2 _ _ ((rd_T43 l0_2 x5_2).f2) _ _ ((rd_T43 l1_2 x5_2).f2) true _ ?side1 ?side2 ?side3 ?side4 A35.out).mono ?_); (case side1 => exact Kd.C_below HR125_2.out (by repeat (first | (with_reducible first | exact HB.out | apply below_alloc | apply pw_below_drewN | apply below_drew1 | refine below_set ?_ GE123.out | refine below_set ?_ GE124.out | refine below_set ?_ GE126.out | refine below_set ?_ GE128.out) | exact HB.out))); (case side2 => exact HC125_2.out); (case side3 => exact Kd.C_below HR127_2.out (by repeat (first | (with_reducible first | exact HB.out | apply below_alloc | apply pw_below_drewN | apply below_drew1 | refine below_set ?_ GE123.out | refine below_set ?_ GE124.out | refine below_set ?_ GE126.out | refine below_set ?_ GE128.out) | exact HB.out))); (case side4 => exact HC127_2.out); rintro e w' ⟨rfl, ⟨nd, rfl⟩⟩))
                        go_meet
                        case rel => exact ⟨_, (((((rd_T43 l0_2 x5_2).f1).length : Int) != (((rd_T43 l1_2 x5_2).f1).length : Int))), (by first | rfl | (simp; done) | (simp [*]; done)), H', ⟨by have := HJ2.out; have := HK2.out; first | omega | exact Nat.le_refl _⟩, ⟨by (with_reducible repeat (first | refine blk_drewN ?_ _ | refine blk_drew ?_ | refine blk_alloc ?_ _)); refine blk_far ?_ NB123_128.out _; (with_reducible repeat (first | refine blk_drewN ?_ _ | refine blk_drew ?_ | refine blk_alloc ?_ _)); refine blk_far ?_ NB123_128.out _; (with_reducible repeat (first | refine blk_drewN ?_ _ | refine blk_drew ?_ | refine blk_alloc ?_ _)); refine blk_far ?_ NB123_128.out _; (with_reducible repeat (first | refine blk_drewN ?_ _ | refine blk_drew ?_ | refine blk_alloc ?_ _)); exact BK123.out⟩, ⟨by (with_reducible repeat (first | refine blk_drewN ?_ _ | refine blk_drew ?_ | refine blk_alloc ?_ _)); refine blk_far ?_ NB124_128.out _; (with_reducible repeat (first | refine blk_drewN ?_ _ | refine blk_drew ?_ | refine blk_alloc ?_ _)); refine blk_far ?_ NB124_128.out _; (with_reducible repeat (first | refine blk_drewN ?_ _ | refine blk_drew ?_ | refine blk_alloc ?_ _)); refine blk_far ?_ NB124_128.out _; (with_reducible repeat (first | refine blk_drewN ?_ _ | refine blk_drew ?_ | refine blk_alloc ?_ _)); exact BK124.out⟩, ⟨by (with_reducible repeat (first | refine blk_drewN ?_ _ | refine blk_drew ?_ | refine blk_alloc ?_ _)); refine blk_far ?_ NB126_128.out _; (with_reducible repeat (first | refine blk_drewN ?_ _ | refine blk_drew ?_ | refine blk_alloc ?_ _)); refine blk_far ?_ NB126_128.out _; (with_reducible repeat (first | refine blk_drewN ?_ _ | refine blk_drew ?_ | refine blk_alloc ?_ _)); refine blk_far ?_ NB126_128.out _; (with_reducible repeat (first | refine blk_drewN ?_ _ | refine blk_drew ?_ | refine blk_alloc ?_ _)); exact BK126.out⟩, ⟨by (with_reducible repeat (first | refine blk_drewN ?_ _ | refine blk_drew ?_ | refine blk_alloc ?_ _)); refine blk_put (cs := #[.int .i64 ((rd_T43 l1_2 x5_2).f0), .slice A127_1 ((rd_T43 l1_2 x5_2).f1).length c127_1, .slice none 0 0]) ?_ 2 _ rfl; (with_reducible repeat (first | refine blk_drewN ?_ _ | refine blk_drew ?_ | refine blk_alloc ?_ _)); refine blk_put (cs := #[.int .i64 ((rd_T43 l1_2 x5_2).f0), .slice none 0 0, .slice none 0 0]) ?_ 1 _ rfl; (with_reducible repeat (first | refine blk_drewN ?_ _ | refine blk_drew ?_ | refine blk_alloc ?_ _)); refine blk_put (cs := #[.int .i64 0, .slice none 0 0, .slice none 0 0]) ?_ 0 _ rfl; (with_reducible repeat (first | refine blk_drewN ?_ _ | refine blk_drew ?_ | refine blk_alloc ?_ _)); exact BK128.out⟩, ⟨by repeat (first | (with_reducible first | exact HB.out | apply below_alloc | apply pw_below_drewN | apply below_drew1 | refine below_set ?_ GE123.out | refine below_set ?_ GE124.out | refine below_set ?_ GE126.out | refine below_set ?_ GE128.out) | exact HB.out)⟩⟩
                      · replace c36 := Bool.eq_false_iff.mpr c36
                        subst c36
                        have H1 : (portageref0_SameRegs.j2 k2 x5_2 true a0_0 a0_1 l0_2 a1_0 a1_1 l1_2 ((rd_T43 l0_2 x5_2).f0) ((rd_T43 l0_2 x5_2).f1) ((rd_T43 l0_2 x5_2).f2) ((rd_T43 l1_2 x5_2).f0) ((rd_T43 l1_2 x5_2).f1) ((rd_T43 l1_2 x5_2).f2)) = some r := by rw [if_neg (show ¬ (false = true) by decide)] at H; exact H
                        clear H
                        have H := H1
                        clear H1
                        have H' := Aside0.mk H
                        clear H
                        have hnb44 := NB126_123.out
                        have hnc44 := NB123_126.out
                        have hnb45 := NB126_124.out
                        have hnc45 := NB124_126.out
                        have hnb46 := NB126_128.out
                        have hnc46 := NB128_126.out
                        have hcz47_0 : w29.cell? ⟨gb126, 0, none⟩ = some (.int .i64 ((rd_T43 l0_2 x5_2).f0)) := (blk_cell BK126.out 0).trans rfl
                        have hcz47_1 : w29.cell? ⟨gb126, 1, none⟩ = some (.slice A125_1 ((rd_T43 l0_2 x5_2).f1).length c125_1) := (blk_cell BK126.out 1).trans rfl
                        have hcz47_2 : w29.cell? ⟨gb126, 2, none⟩ = some (.slice A125_2 ((rd_T43 l0_2 x5_2).f2).length c125_2) := (blk_cell BK126.out 2).trans rfl
                        have hfz47_0 := blk_frozen BK126.out 0
                        have hfz47_1 := blk_frozen BK126.out 1
                        have hfz47_2 := blk_frozen BK126.out 2
                        have hnb48 := NB128_123.out
                        have hnc48 := NB123_128.out
                        have hnb49 := NB128_124.out
                        have hnc49 := NB124_128.out
                        have hcz50_0 : w29.cell? ⟨gb128, 0, none⟩ = some (.int .i64 0) := (blk_cell BK128.out 0).trans rfl
                        have hcz50_1 : w29.cell? ⟨gb128, 1, none⟩ = some (.slice none 0 0) := (blk_cell BK128.out 1).trans rfl
                        have hcz50_2 : w29.cell? ⟨gb128, 2, none⟩ = some (.slice none 0 0) := (blk_cell BK128.out 2).trans rfl
                        have hfz50_0 := blk_frozen BK128.out 0
                        have hfz50_1 := blk_frozen BK128.out 1
                        have hfz50_2 := blk_frozen BK128.out 2
                        go_wp2_with (first | (go_at_call 12; (with_reducible refine (portageref0_SameInts.calls k2 _ _ ((rd_T43 l0_2 x5_2).f2) _ _ ((rd_T43 l1_2 x5_2).f2) false _ ?side1 ?side2 ?side3 ?side4 A35.out).mono ?_); (case side1 => exact Kd.C_below HR125_2.out (by repeat (first | (with_reducible first | exact HB.out | apply below_alloc | apply pw_below_drewN | apply below_drew1 | refine below_set ?_ GE123.out | refine below_set ?_ GE124.out | refine below_set ?_ GE126.out | refine below_set ?_ GE128.out) | exact HB.out))); (case side2 => exact HC125_2.out); (case side3 => exact Kd.C_below HR127_2.out (by repeat (first | (with_reducible first | exact HB.out | apply below_alloc | apply pw_below_drewN | apply below_drew1 | refine below_set ?_ GE123.out | refine below_set ?_ GE124.out | refine below_set ?_ GE126.out | refine below_set ?_ GE128.out) | exact HB.out))); (case side4 => exact HC127_2.out); rintro e w' ⟨rfl, ⟨nd, rfl⟩⟩))
                        go_meet
                        case rel => exact ⟨_, (true), (by first | rfl | (simp; done) | (simp [*]; done)), H', ⟨by have := HJ2.out; have := HK2.out; first | omega | exact Nat.le_refl _⟩, ⟨by (with_reducible repeat (first | refine blk_drewN ?_ _ | refine blk_drew ?_ | refine blk_alloc ?_ _)); refine blk_far ?_ NB123_128.out _; (with_reducible repeat (first | refine blk_drewN ?_ _ | refine blk_drew ?_ | refine blk_alloc ?_ _)); refine blk_far ?_ NB123_128.out _; (with_reducible repeat (first | refine blk_drewN ?_ _ | refine blk_drew ?_ | refine blk_alloc ?_ _)); refine blk_far ?_ NB123_128.out _; (with_reducible repeat (first | refine blk_drewN ?_ _ | refine blk_drew ?_ | refine blk_alloc ?_ _)); exact BK123.out⟩, ⟨by (with_reducible repeat (first | refine blk_drewN ?_ _ | refine blk_drew ?_ | refine blk_alloc ?_ _)); refine blk_far ?_ NB124_128.out _; (with_reducible repeat (first | refine blk_drewN ?_ _ | refine blk_drew ?_ | refine blk_alloc ?_ _)); refine blk_far ?_ NB124_128.out _; (with_reducible repeat (first | refine blk_drewN ?_ _ | refine blk_drew ?_ | refine blk_alloc ?_ _)); refine blk_far ?_ NB124_128.out _; (with_reducible repeat (first | refine blk_drewN ?_ _ | refine blk_drew ?_ | refine blk_alloc ?_ _)); exact BK124.out⟩, ⟨by (with_reducible repeat (first | refine blk_drewN ?_ _ | refine blk_drew ?_ | refine blk_alloc ?_ _)); refine blk_far ?_ NB126_128.out _; (with_reducible repeat (first | refine blk_drewN ?_ _ | refine blk_drew ?_ | refine blk_alloc ?_ _)); refine blk_far ?_ NB126_128.out _; (with_reducible repeat (first | refine blk_drewN ?_ _ | refine blk_drew ?_ | refine blk_alloc ?_ _)); refine blk_far ?_ NB126_128.out _; (with_reducible repeat (first | refine blk_drewN ?_ _ | refine blk_drew ?_ | refine blk_alloc ?_ _)); exact BK126.out⟩, ⟨by (with_reducible repeat (first | refine blk_drewN ?_ _ | refine blk_drew ?_ | refine blk_alloc ?_ _)); refine blk_put (cs := #[.int .i64 ((rd_T43 l1_2 x5_2).f0), .slice A127_1 ((rd_T43 l1_2 x5_2).f1).length c127_1, .slice none 0 0]) ?_ 2 _ rfl; (with_reducible repeat (first | refine blk_drewN ?_ _ | refine blk_drew ?_ | refine blk_alloc ?_ _)); refine blk_put (cs := #[.int .i64 ((rd_T43 l1_2 x5_2).f0), .slice none 0 0, .slice none 0 0]) ?_ 1 _ rfl; (with_reducible repeat (first | refine blk_drewN ?_ _ | refine blk_drew ?_ | refine blk_alloc ?_ _)); refine blk_put (cs := #[.int .i64 0, .slice none 0 0, .slice none 0 0]) ?_ 0 _ rfl; (with_reducible repeat (first | refine blk_drewN ?_ _ | refine blk_drew ?_ | refine blk_alloc ?_ _)); exact BK128.out⟩, ⟨by repeat (first | (with_reducible first | exact HB.out | apply below_alloc | apply pw_below_drewN | apply below_drew1 | refine below_set ?_ GE123.out | refine below_set ?_ GE124.out | refine below_set ?_ GE126.out | refine below_set ?_ GE128.out) | exact HB.out)⟩⟩
                    · rw [if_neg c34] at H
                      have c34b0 : (((rd_T43 l0_2 x5_2).f0) == ((rd_T43 l1_2 x5_2).f0)) = false := beq_eq_false_iff_ne.mpr c34
                      have c34b1 : (((rd_T43 l0_2 x5_2).f0) != ((rd_T43 l1_2 x5_2).f0)) = true := bne_iff_ne.mpr c34
                      (first | rw [c34b0] | (simp only [i64_w, i32_w]; rw [c34b0]) | skip)
                      have H' := Aside0.mk H
                      clear H
                      have hnb51 := NB126_123.out
                      have hnc51 := NB123_126.out
                      have hnb52 := NB126_124.out
                      have hnc52 := NB124_126.out
                      have hnb53 := NB126_128.out
                      have hnc53 := NB128_126.out
                      have hcz54_0 : w29.cell? ⟨gb126, 0, none⟩ = some (.int .i64 ((rd_T43 l0_2 x5_2).f0)) := (blk_cell BK126.out 0).trans rfl
                      have hcz54_1 : w29.cell? ⟨gb126, 1, none⟩ = some (.slice A125_1 ((rd_T43 l0_2 x5_2).f1).length c125_1) := (blk_cell BK126.out 1).trans rfl
                      have hcz54_2 : w29.cell? ⟨gb126, 2, none⟩ = some (.slice A125_2 ((rd_T43 l0_2 x5_2).f2).length c125_2) := (blk_cell BK126.out 2).trans rfl
                      have hfz54_0 := blk_frozen BK126.out 0
                      have hfz54_1 := blk_frozen BK126.out 1
                      have hfz54_2 := blk_frozen BK126.out 2
                      have hnb55 := NB128_123.out
                      have hnc55 := NB123_128.out
                      have hnb56 := NB128_124.out
                      have hnc56 := NB124_128.out
                      have hcz57_0 : w29.cell? ⟨gb128, 0, none⟩ = some (.int .i64 0) := (blk_cell BK128.out 0).trans rfl
                      have hcz57_1 : w29.cell? ⟨gb128, 1, none⟩ = some (.slice none 0 0) := (blk_cell BK128.out 1).trans rfl
                      have hcz57_2 : w29.cell? ⟨gb128, 2, none⟩ = some (.slice none 0 0) := (blk_cell BK128.out 2).trans rfl
                      have hfz57_0 := blk_frozen BK128.out 0
                      have hfz57_1 := blk_frozen BK128.out 1
                      have hfz57_2 := blk_frozen BK128.out 2
                      go_wp2
                      go_meet
                      case rel => exact ⟨_, (true), (by first | rfl | (simp; done) | (simp [*]; done)), H', ⟨by have := HJ2.out; have := HK2.out; first | omega | exact Nat.le_refl _⟩, ⟨by (with_reducible repeat (first | refine blk_drewN ?_ _ | refine blk_drew ?_ | refine blk_alloc ?_ _)); refine blk_far ?_ NB123_128.out _; (with_reducible repeat (first | refine blk_drewN ?_ _ | refine blk_drew ?_ | refine blk_alloc ?_ _)); refine blk_far ?_ NB123_128.out _; (with_reducible repeat (first | refine blk_drewN ?_ _ | refine blk_drew ?_ | refine blk_alloc ?_ _)); refine blk_far ?_ NB123_128.out _; (with_reducible repeat (first | refine blk_drewN ?_ _ | refine blk_drew ?_ | refine blk_alloc ?_ _)); exact BK123.out⟩, ⟨by (with_reducible repeat (first | refine blk_drewN ?_ _ | refine blk_drew ?_ | refine blk_alloc ?_ _)); refine blk_far ?_ NB124_128.out _; (with_reducible repeat (first | refine blk_drewN ?_ _ | refine blk_drew ?_ | refine blk_alloc ?_ _)); refine blk_far ?_ NB124_128.out _; (with_reducible repeat (first | refine blk_drewN ?_ _ | refine blk_drew ?_ | refine blk_alloc ?_ _)); refine blk_far ?_ NB124_128.out _; (with_reducible repeat (first | refine blk_drewN ?_ _ | refine blk_drew ?_ | refine blk_alloc ?_ _)); exact BK124.out⟩, ⟨by (with_reducible repeat (first | refine blk_drewN ?_ _ | refine blk_drew ?_ | refine blk_alloc ?_ _)); refine blk_far ?_ NB126_128.out _; (with_reducible repeat (first | refine blk_drewN ?_ _ | refine blk_drew ?_ | refine blk_alloc ?_ _)); refine blk_far ?_ NB126_128.out _; (with_reducible repeat (first | refine blk_drewN ?_ _ | refine blk_drew ?_ | refine blk_alloc ?_ _)); refine blk_far ?_ NB126_128.out _; (with_reducible repeat (first | refine blk_drewN ?_ _ | refine blk_drew ?_ | refine blk_alloc ?_ _)); exact BK126.out⟩, ⟨by (with_reducible repeat (first | refine blk_drewN ?_ _ | refine blk_drew ?_ | refine blk_alloc ?_ _)); refine blk_put (cs := #[.int .i64 ((rd_T43 l1_2 x5_2).f0), .slice A127_1 ((rd_T43 l1_2 x5_2).f1).length c127_1, .slice none 0 0]) ?_ 2 _ rfl; (with_reducible repeat (first | refine blk_drewN ?_ _ | refine blk_drew ?_ | refine blk_alloc ?_ _)); refine blk_put (cs := #[.int .i64 ((rd_T43 l1_2 x5_2).f0), .slice none 0 0, .slice none 0 0]) ?_ 1 _ rfl; (with_reducible repeat (first | refine blk_drewN ?_ _ | refine blk_drew ?_ | refine blk_alloc ?_ _)); refine blk_put (cs := #[.int .i64 0, .slice none 0 0, .slice none 0 0]) ?_ 0 _ rfl; (with_reducible repeat (first | refine blk_drewN ?_ _ | refine blk_drew ?_ | refine blk_alloc ?_ _)); exact BK128.out⟩, ⟨by repeat (first | (with_reducible first | exact HB.out | apply below_alloc | apply pw_below_drewN | apply below_drew1 | refine below_set ?_ GE123.out | refine below_set ?_ GE124.out | refine below_set ?_ GE126.out | refine below_set ?_ GE128.out) | exact HB.out)⟩⟩
                  case rest =>
                    clear HC21
                    try clear c1
                    try clear p1
                    try clear q1
                    try clear hx1
                    try clear c2
                    try clear p2
                    try clear c3
                    try clear c4
                    try clear c5
                    try clear c6
                    try clear c6b0
                    try clear c6b1
                    try clear c7
                    try clear c7b0
                    try clear c7b1
                    try clear c8
                    try clear c11
                    try clear c12
                    try clear p12
                    try clear q12
                    try clear hx12
                    try clear c14
                    try clear c17
                    try clear c18
                    try clear c18b0
                    try clear c19
                    try clear c19b0
                    try clear c20
                    try clear c20b0
                    try clear c22
                    try clear c25
                    try clear c26
                    try clear c30
                    try clear c31
                    try clear c32
                    try clear c34
                    try clear c34b0
                    try clear c34b1
                    try clear c36
                    try clear c37
                    try clear c38
                    try clear c39
                    try clear c41
                    try clear c42
                    try clear c44
                    try clear c45
                    try clear c46
                    try clear c48
                    try clear c49
                    try clear c51
                    try clear c52
                    try clear c53
                    try clear c55
                    try clear c56
                    try clear hcz10_0
                    try clear hcz10_1
                    try clear hcz10_2
                    try clear hcz12_0
                    try clear hcz12_1
                    try clear hcz12_2
                    try clear hcz13_0
                    try clear hcz13_1
                    try clear hcz13_2
                    try clear hcz15_0
                    try clear hcz15_1
                    try clear hcz15_2
                    try clear hcz16_0
                    try clear hcz16_1
                    try clear hcz16_2
                    try clear hcz23_0
                    try clear hcz23_1
                    try clear hcz23_2
                    try clear hcz27_0
                    try clear hcz27_1
                    try clear hcz27_2
                    try clear hcz28_0
                    try clear hcz28_1
                    try clear hcz28_2
                    try clear hcz33_0
                    try clear hcz33_1
                    try clear hcz33_2
                    try clear hcz40_0
                    try clear hcz40_1
                    try clear hcz40_2
                    try clear hcz43_0
                    try clear hcz43_1
                    try clear hcz43_2
                    try clear hcz47_0
                    try clear hcz47_1
                    try clear hcz47_2
                    try clear hcz50_0
                    try clear hcz50_1
                    try clear hcz50_2
                    try clear hcz54_0
                    try clear hcz54_1
                    try clear hcz54_2
                    try clear hcz57_0
                    try clear hcz57_1
                    try clear hcz57_2
                    try clear hcz9_0
                    try clear hcz9_1
                    try clear hcz9_2
                    try clear hfz10_0
                    try clear hfz10_1
                    try clear hfz10_2
                    try clear hfz12_0
                    try clear hfz12_1
                    try clear hfz12_2
                    try clear hfz13_0
                    try clear hfz13_1
                    try clear hfz13_2
                    try clear hfz15_0
                    try clear hfz15_1
                    try clear hfz15_2
                    try clear hfz16_0
                    try clear hfz16_1
                    try clear hfz16_2
                    try clear hfz23_0
                    try clear hfz23_1
                    try clear hfz23_2
                    try clear hfz27_0
                    try clear hfz27_1
                    try clear hfz27_2
                    try clear hfz28_0
                    try clear hfz28_1
                    try clear hfz28_2
                    try clear hfz33_0
                    try clear hfz33_1
                    try clear hfz33_2
                    try clear hfz40_0
                    try clear hfz40_1
                    try clear hfz40_2
                    try clear hfz43_0
                    try clear hfz43_1
                    try clear hfz43_2
                    try clear hfz47_0
                    try clear hfz47_1
                    try clear hfz47_2
                    try clear hfz50_0
                    try clear hfz50_1
                    try clear hfz50_2
                    try clear hfz54_0
                    try clear hfz54_1
                    try clear hfz54_2
                    try clear hfz57_0
                    try clear hfz57_1
                    try clear hfz57_2
                    try clear hfz9_0
                    try clear hfz9_1
                    try clear hfz9_2
                    try clear hx125_0
                    try clear hx125_1
                    try clear hx125_2
                    try clear hx127_0
                    try clear hx127_1
                    try clear hx127_2
                    try clear p125
                    try clear p127
                    try clear p2
                    try clear q125
                    try clear q127
                    obtain ⟨kq, x68_20, rfl, HA, HJ20, BK123, BK124, BK126, BK128, HB⟩ := hcut
                    cases kq with
                    | zero => exact absurd HA.out (by simp [portageref0_SameRegs.j2])
                    | succ kj20 =>
                      have H := HA.out
                      clear HA
                      simp only [portageref0_SameRegs.j2] at H
                      by_cases c58 : x68_20 = true
                      · subst c58
                        have H1 : (some false) = some r := by rw [if_pos rfl] at H; exact H
                        clear H
                        have H := H1
                        clear H1
                        obtain rfl := Option.some.inj H
                        go_wp2
                        go_ret
                        exact ⟨by first | rfl | (simp [errW_none, errW_some] <;> rfl) | (simp [*, errW_none, errW_some] <;> rfl), by repeat (first | (with_reducible first | exact HB.out | apply below_alloc | apply pw_below_drewN | apply below_drew1 | refine below_set ?_ GE123.out | refine below_set ?_ GE124.out | refine below_set ?_ GE126.out | refine below_set ?_ GE128.out) | exact HB.out)⟩
                      · replace c58 := Bool.eq_false_iff.mpr c58
                        subst c58
                        have H1 : (portageref0_SameRegs.l1 kj20 x5_2 0 a0_0 a0_1 l0_2 a1_0 a1_1 l1_2 ((rd_T43 l0_2 x5_2).f0) ((rd_T43 l0_2 x5_2).f1) ((rd_T43 l0_2 x5_2).f2) ((rd_T43 l1_2 x5_2).f0) ((rd_T43 l1_2 x5_2).f1) ((rd_T43 l1_2 x5_2).f2)) = some r := by rw [if_neg (show ¬ (false = true) by decide)] at H; exact H
                        clear H
                        have H := H1
                        clear H1
                        have H' := Aside0.mk H
                        clear H
                        go_wp2
                        go_loopg [8] kj20 (fun kq v8 w' => ∃ (x8_4 : Int), v8 = .int .i64 x8_4 ∧ Aside0 (portageref0_SameRegs.l1 kq x5_2 x8_4 a0_0 a0_1 l0_2 a1_0 a1_1 l1_2 ((rd_T43 l0_2 x5_2).f0) ((rd_T43 l0_2 x5_2).f1) ((rd_T43 l0_2 x5_2).f2) ((rd_T43 l1_2 x5_2).f0) ((rd_T43 l1_2 x5_2).f1) ((rd_T43 l1_2 x5_2).f2) = some r) ∧ Aside0 (kq ≤ kj20) ∧ Aside0 (w'.heap[gb123]? = some (.cells #[.int .i64 a0_0, .int .i64 a0_1, (.slice (some ad125) l0_2.length c0_2)] 24 (0, 0))) ∧ Aside0 (w'.heap[gb124]? = some (.cells #[.int .i64 a1_0, .int .i64 a1_1, (.slice (some ad127) l1_2.length c1_2)] 24 (0, 0))) ∧ Aside0 (w'.heap[gb126]? = some (.cells #[.int .i64 ((rd_T43 l0_2 x5_2).f0), (.slice A125_1 ((rd_T43 l0_2 x5_2).f1).length c125_1), (.slice A125_2 ((rd_T43 l0_2 x5_2).f2).length c125_2)] 43 (0, 0))) ∧ Aside0 (w'.heap[gb128]? = some (.cells #[.int .i64 ((rd_T43 l1_2 x5_2).f0), (.slice A127_1 ((rd_T43 l1_2 x5_2).f1).length c127_1), (.slice A127_2 ((rd_T43 l1_2 x5_2).f2).length c127_2)] 43 (0, 0))) ∧ Aside0 (Below w.heap.size w w'))
                        case atStart => exact ⟨(0), (by first | rfl | (simp; done) | (simp [*]; done)), H', ⟨Nat.le_refl _⟩, ⟨by (with_reducible repeat (first | refine blk_drewN ?_ _ | refine blk_drew ?_ | refine blk_alloc ?_ _)); exact BK123.out⟩, ⟨by (with_reducible repeat (first | refine blk_drewN ?_ _ | refine blk_drew ?_ | refine blk_alloc ?_ _)); exact BK124.out⟩, ⟨by (with_reducible repeat (first | refine blk_drewN ?_ _ | refine blk_drew ?_ | refine blk_alloc ?_ _)); exact BK126.out⟩, ⟨by (with_reducible repeat (first | refine blk_drewN ?_ _ | refine blk_drew ?_ | refine blk_alloc ?_ _)); exact BK128.out⟩, ⟨by repeat (first | (with_reducible first | exact HB.out | apply below_alloc | apply pw_below_drewN | apply below_drew1 | refine below_set ?_ GE123.out | refine below_set ?_ GE124.out | refine below_set ?_ GE126.out | refine below_set ?_ GE128.out) | exact HB.out)⟩⟩
                        case round =>
                          clear H'
                          try clear c1
                          try clear p1
                          try clear q1
                          try clear hx1
                          try clear c2
                          try clear p2
                          try clear c3
                          try clear c4
                          try clear c5
                          try clear c6
                          try clear c6b0
                          try clear c6b1
                          try clear c7
                          try clear c7b0
                          try clear c7b1
                          try clear c8
                          try clear c11
                          try clear c12
                          try clear p12
                          try clear q12
                          try clear hx12
                          try clear c14
                          try clear c17
                          try clear c18
                          try clear c18b0
                          try clear c19
                          try clear c19b0
                          try clear c20
                          try clear c20b0
                          try clear c22
                          try clear c25
                          try clear c26
                          try clear c30
                          try clear c31
                          try clear c32
                          try clear c34
                          try clear c34b0
                          try clear c34b1
                          try clear c36
                          try clear c37
                          try clear c38
                          try clear c39
                          try clear c41
                          try clear c42
                          try clear c44
                          try clear c45
                          try clear c46
                          try clear c48
                          try clear c49
                          try clear c51
                          try clear c52
                          try clear c53
                          try clear c55
                          try clear c56
                          try clear c58
                          try clear hcz10_0
                          try clear hcz10_1
                          try clear hcz10_2
                          try clear hcz12_0
                          try clear hcz12_1
                          try clear hcz12_2
                          try clear hcz13_0
                          try clear hcz13_1
                          try clear hcz13_2
                          try clear hcz15_0
                          try clear hcz15_1
                          try clear hcz15_2
                          try clear hcz16_0
                          try clear hcz16_1
                          try clear hcz16_2
                          try clear hcz23_0
                          try clear hcz23_1
                          try clear hcz23_2
                          try clear hcz27_0
                          try clear hcz27_1
                          try clear hcz27_2
                          try clear hcz28_0
                          try clear hcz28_1
                          try clear hcz28_2
                          try clear hcz33_0
                          try clear hcz33_1
                          try clear hcz33_2
                          try clear hcz40_0
                          try clear hcz40_1
                          try clear hcz40_2
                          try clear hcz43_0
                          try clear hcz43_1
                          try clear hcz43_2
                          try clear hcz47_0
                          try clear hcz47_1
                          try clear hcz47_2
                          try clear hcz50_0
                          try clear hcz50_1
                          try clear hcz50_2
                          try clear hcz54_0
                          try clear hcz54_1
                          try clear hcz54_2
                          try clear hcz57_0
                          try clear hcz57_1
                          try clear hcz57_2
                          try clear hcz9_0
                          try clear hcz9_1
                          try clear hcz9_2
                          try clear hfz10_0
                          try clear hfz10_1
                          try clear hfz10_2
                          try clear hfz12_0
                          try clear hfz12_1
                          try clear hfz12_2
                          try clear hfz13_0
                          try clear hfz13_1
                          try clear hfz13_2
                          try clear hfz15_0
                          try clear hfz15_1
                          try clear hfz15_2
                          try clear hfz16_0
                          try clear hfz16_1
                          try clear hfz16_2
                          try clear hfz23_0
                          try clear hfz23_1
                          try clear hfz23_2
                          try clear hfz27_0
                          try clear hfz27_1
                          try clear hfz27_2
                          try clear hfz28_0
                          try clear hfz28_1
                          try clear hfz28_2
                          try clear hfz33_0
                          try clear hfz33_1
                          try clear hfz33_2
                          try clear hfz40_0
                          try clear hfz40_1
                          try clear hfz40_2
                          try clear hfz43_0
                          try clear hfz43_1
                          try clear hfz43_2
                          try clear hfz47_0
                          try clear hfz47_1
                          try clear hfz47_2
                          try clear hfz50_0
                          try clear hfz50_1
                          try clear hfz50_2
                          try clear hfz54_0
                          try clear hfz54_1
                          try clear hfz54_2
                          try clear hfz57_0
                          try clear hfz57_1
                          try clear hfz57_2
                          try clear hfz9_0
                          try clear hfz9_1
                          try clear hfz9_2
                          try clear hx125_0
                          try clear hx125_1
                          try clear hx125_2
                          try clear hx127_0
                          try clear hx127_1
                          try clear hx127_2
                          try clear p1
                          try clear p12
                          try clear p125
                          try clear p127
                          try clear p2
                          try clear q1
                          try clear q12
                          try clear q125
                          try clear q127
                          obtain ⟨x8_4, rfl, HA, HK4, BK123, BK124, BK126, BK128, HB⟩ := hrel
                          cases gk with
                          | zero => exact absurd HA.out (by simp [portageref0_SameRegs.l1])
                          | succ k4 =>
                            have H := HA.out
                            clear HA
                            simp only [portageref0_SameRegs.l1] at H
                            by_cases c59 : x8_4 < (((rd_T43 l0_2 x5_2).f1).length : Int)
                            · rw [if_pos c59] at H
                              have c59b0 : decide (x8_4 < (((rd_T43 l0_2 x5_2).f1).length : Int)) = true := decide_eq_true c59
                              clear c59
                              by_cases c60 : 0 ≤ x8_4
                              · rw [if_pos c60] at H
                                have c60b0 : decide (0 ≤ x8_4) = true := decide_eq_true c60
                                clear c60
                                by_cases c61 : x8_4 < (((rd_T43 l1_2 x5_2).f1).length : Int)
                                · rw [if_pos c61] at H
                                  have c61b0 : decide (x8_4 < (((rd_T43 l1_2 x5_2).f1).length : Int)) = true := decide_eq_true c61
                                  clear c61
                                  replace H := Option.bind_eq_some_iff.mp H
                                  obtain ⟨t132, A620, H⟩ := H
                                  replace H : (if t132 = true then (portageref0_SameRegs.l1 k4 x5_2 (wrap64 (x8_4 + 1)) a0_0 a0_1 l0_2 a1_0 a1_1 l1_2 ((rd_T43 l0_2 x5_2).f0) ((rd_T43 l0_2 x5_2).f1) ((rd_T43 l0_2 x5_2).f2) ((rd_T43 l1_2 x5_2).f0) ((rd_T43 l1_2 x5_2).f1) ((rd_T43 l1_2 x5_2).f2)) else (some false)) = some r := H
                                  have A62 := Aside0.mk A620
                                  clear A620
                                  by_cases c63 : t132 = true
                                  · subst c63
                                    have H1 : (portageref0_SameRegs.l1 k4 x5_2 (wrap64 (x8_4 + 1)) a0_0 a0_1 l0_2 a1_0 a1_1 l1_2 ((rd_T43 l0_2 x5_2).f0) ((rd_T43 l0_2 x5_2).f1) ((rd_T43 l0_2 x5_2).f2) ((rd_T43 l1_2 x5_2).f0) ((rd_T43 l1_2 x5_2).f1) ((rd_T43 l1_2 x5_2).f2)) = some r := by rw [if_pos rfl] at H; exact H
                                    clear H
                                    have H := H1
                                    clear H1
                                    have H' := Aside0.mk H
                                    clear H
                                    have hnb64 := NB126_123.out
                                    have hnc64 := NB123_126.out
                                    have hnb65 := NB126_124.out
                                    have hnc65 := NB124_126.out
                                    have hnb66 := NB126_128.out
                                    have hnc66 := NB128_126.out
                                    have hcz67_0 : wr.cell? ⟨gb126, 0, none⟩ = some (.int .i64 ((rd_T43 l0_2 x5_2).f0)) := (blk_cell BK126.out 0).trans rfl
                                    have hcz67_1 : wr.cell? ⟨gb126, 1, none⟩ = some (.slice A125_1 ((rd_T43 l0_2 x5_2).f1).length c125_1) := (blk_cell BK126.out 1).trans rfl
                                    have hcz67_2 : wr.cell? ⟨gb126, 2, none⟩ = some (.slice A125_2 ((rd_T43 l0_2 x5_2).f2).length c125_2) := (blk_cell BK126.out 2).trans rfl
                                    have hfz67_0 := blk_frozen BK126.out 0
                                    have hfz67_1 := blk_frozen BK126.out 1
                                    have hfz67_2 := blk_frozen BK126.out 2
                                    try go_wp2
                                    have n0_ := Aside0.mk (blk_drew BK123.out)
                                    have n1_ := Aside0.mk (blk_drew BK124.out)
                                    have n2_ := Aside0.mk (blk_drew BK126.out)
                                    have n3_ := Aside0.mk (blk_drew BK128.out)
                                    have n4_ := Aside0.mk (below_drew1 HB.out)
                                    clear BK123
                                    clear BK124
                                    clear BK126
                                    clear BK128
                                    clear HB
                                    have BK123 := n0_
                                    have BK124 := n1_
                                    have BK126 := n2_
                                    have BK128 := n3_
                                    have HB := n4_
                                    clear n0_ n1_ n2_ n3_ n4_
                                    have p130 : 0 ≤ (x8_4 : Int) := of_decide_eq_true (by first | (with_reducible assumption) | assumption)
                                    have q130 : x8_4 < (((rd_T43 l0_2 x5_2).f1).length : Int) := of_decide_eq_true (by first | (with_reducible assumption) | assumption)
                                    obtain ⟨ad130, A130_3, c130_3, A130_7, c130_7, e130, hx130_0, hx130_1, hx130_2, hx130_3, hx130_4, hx130_5, hx130_6, hx130_7, hl130_3, hi130_3, hl130_7, hi130_7⟩ := at_T47 HR125_1.out x8_4 p130 q130
                                    have hw130_7 := hx130_7
                                    have hw130_6 := hx130_6
                                    have hw130_5 := hx130_5
                                    have hw130_4 := hx130_4
                                    have hw130_3 := hx130_3
                                    have hw130_2 := hx130_2
                                    have hw130_1 := hx130_1
                                    have hw130_0 := hx130_0
                                    cases e130
                                    replace hx130_0 := (HB.out.cell (World.block_lt_of_cell? w _ hx130_0)).trans hx130_0
                                    replace hx130_1 := (HB.out.cell (World.block_lt_of_cell? w _ hx130_1)).trans hx130_1
                                    replace hx130_2 := (HB.out.cell (World.block_lt_of_cell? w _ hx130_2)).trans hx130_2
                                    replace hx130_3 := (HB.out.cell (World.block_lt_of_cell? w _ hx130_3)).trans hx130_3
                                    replace hx130_4 := (HB.out.cell (World.block_lt_of_cell? w _ hx130_4)).trans hx130_4
                                    replace hx130_5 := (HB.out.cell (World.block_lt_of_cell? w _ hx130_5)).trans hx130_5
                                    replace hx130_6 := (HB.out.cell (World.block_lt_of_cell? w _ hx130_6)).trans hx130_6
                                    replace hx130_7 := (HB.out.cell (World.block_lt_of_cell? w _ hx130_7)).trans hx130_7
                                    have HR130_3 := Aside0.mk hi130_3
                                    have HC130_3 := Aside0.mk hl130_3
                                    clear hi130_3 hl130_3
                                    have HR130_7 := Aside0.mk hi130_7
                                    have HC130_7 := Aside0.mk hl130_7
                                    clear hi130_7 hl130_7
                                    replace p130 := eq_true p130
                                    replace q130 := eq_true q130
                                    have p131 : 0 ≤ (x8_4 : Int) := of_decide_eq_true (by first | (with_reducible assumption) | assumption)
                                    have q131 : x8_4 < (((rd_T43 l1_2 x5_2).f1).length : Int) := of_decide_eq_true (by first | (with_reducible assumption) | assumption)
                                    obtain ⟨ad131, A131_3, c131_3, A131_7, c131_7, e131, hx131_0, hx131_1, hx131_2, hx131_3, hx131_4, hx131_5, hx131_6, hx131_7, hl131_3, hi131_3, hl131_7, hi131_7⟩ := at_T47 HR127_1.out x8_4 p131 q131
                                    have hw131_7 := hx131_7
                                    have hw131_6 := hx131_6
                                    have hw131_5 := hx131_5
                                    have hw131_4 := hx131_4
                                    have hw131_3 := hx131_3
                                    have hw131_2 := hx131_2
                                    have hw131_1 := hx131_1
                                    have hw131_0 := hx131_0
                                    cases e131
                                    replace hx131_0 := (HB.out.cell (World.block_lt_of_cell? w _ hx131_0)).trans hx131_0
                                    replace hx131_1 := (HB.out.cell (World.block_lt_of_cell? w _ hx131_1)).trans hx131_1
                                    replace hx131_2 := (HB.out.cell (World.block_lt_of_cell? w _ hx131_2)).trans hx131_2
                                    replace hx131_3 := (HB.out.cell (World.block_lt_of_cell? w _ hx131_3)).trans hx131_3
                                    replace hx131_4 := (HB.out.cell (World.block_lt_of_cell? w _ hx131_4)).trans hx131_4
                                    replace hx131_5 := (HB.out.cell (World.block_lt_of_cell? w _ hx131_5)).trans hx131_5
                                    replace hx131_6 := (HB.out.cell (World.block_lt_of_cell? w _ hx131_6)).trans hx131_6
                                    replace hx131_7 := (HB.out.cell (World.block_lt_of_cell? w _ hx131_7)).trans hx131_7
                                    have HR131_3 := Aside0.mk hi131_3
                                    have HC131_3 := Aside0.mk hl131_3
                                    clear hi131_3 hl131_3
                                    have HR131_7 := Aside0.mk hi131_7
                                    have HC131_7 := Aside0.mk hl131_7
                                    clear hi131_7 hl131_7
                                    replace p131 := eq_true p131
                                    replace q131 := eq_true q131
                                    refine start_ (n := 12) (S := fun w' => w'.cell? ⟨gb126, 0, none⟩ = some (.int .i64 ((rd_T43 l0_2 x5_2).f0)) ∧ w'.cell? ⟨gb126, 1, none⟩ = some (.slice (some ad130) ((rd_T43 l0_2 x5_2).f1).length c125_1) ∧ w'.cell? ⟨gb126, 2, none⟩ = some (.slice A125_2 ((rd_T43 l0_2 x5_2).f2).length c125_2) ∧ w'.cell? ⟨gb128, 0, none⟩ = some (.int .i64 ((rd_T43 l1_2 x5_2).f0)) ∧ w'.cell? ⟨gb128, 1, none⟩ = some (.slice (some ad131) ((rd_T43 l1_2 x5_2).f1).length c127_1) ∧ w'.cell? ⟨gb128, 2, none⟩ = some (.slice A127_2 ((rd_T43 l1_2 x5_2).f2).length c127_2) ∧ w'.cell? (ad130.add ((x8_4).toNat * 8)) = some (.int .i64 ((rd_T47 ((rd_T43 l0_2 x5_2).f1) x8_4).f0)) ∧ w'.cell? ⟨(ad130.add ((x8_4).toNat * 8)).block, (ad130.add ((x8_4).toNat * 8)).off + 1, none⟩ = some (.int .i64 ((rd_T47 ((rd_T43 l0_2 x5_2).f1) x8_4).f1)) ∧ w'.cell? ⟨(ad130.add ((x8_4).toNat * 8)).block, (ad130.add ((x8_4).toNat * 8)).off + 2, none⟩ = some (.int .i64 ((rd_T47 ((rd_T43 l0_2 x5_2).f1) x8_4).f2)) ∧ w'.cell? ⟨(ad130.add ((x8_4).toNat * 8)).block, (ad130.add ((x8_4).toNat * 8)).off + 3, none⟩ = some (.slice A130_3 ((rd_T47 ((rd_T43 l0_2 x5_2).f1) x8_4).f3).length c130_3) ∧ w'.cell? ⟨(ad130.add ((x8_4).toNat * 8)).block, (ad130.add ((x8_4).toNat * 8)).off + 4, none⟩ = some (.int .i64 ((rd_T47 ((rd_T43 l0_2 x5_2).f1) x8_4).f4)) ∧ w'.cell? ⟨(ad130.add ((x8_4).toNat * 8)).block, (ad130.add ((x8_4).toNat * 8)).off + 5, none⟩ = some (.int .i64 ((rd_T47 ((rd_T43 l0_2 x5_2).f1) x8_4).f5)) ∧ w'.cell? ⟨(ad130.add ((x8_4).toNat * 8)).block, (ad130.add ((x8_4).toNat * 8)).off + 6, none⟩ = some (.int .i64 ((rd_T47 ((rd_T43 l0_2 x5_2).f1) x8_4).f6)) ∧ w'.cell? ⟨(ad130.add ((x8_4).toNat * 8)).block, (ad130.add ((x8_4).toNat * 8)).off + 7, none⟩ = some (.slice A130_7 ((rd_T47 ((rd_T43 l0_2 x5_2).f1) x8_4).f7).length c130_7) ∧ w'.cell? (ad131.add ((x8_4).toNat * 8)) = some (.int .i64 ((rd_T47 ((rd_T43 l1_2 x5_2).f1) x8_4).f0)) ∧ w'.cell? ⟨(ad131.add ((x8_4).toNat * 8)).block, (ad131.add ((x8_4).toNat * 8)).off + 1, none⟩ = some (.int .i64 ((rd_T47 ((rd_T43 l1_2 x5_2).f1) x8_4).f1)) ∧ w'.cell? ⟨(ad131.add ((x8_4).toNat * 8)).block, (ad131.add ((x8_4).toNat * 8)).off + 2, none⟩ = some (.int .i64 ((rd_T47 ((rd_T43 l1_2 x5_2).f1) x8_4).f2)) ∧ w'.cell? ⟨(ad131.add ((x8_4).toNat * 8)).block, (ad131.add ((x8_4).toNat * 8)).off + 3, none⟩ = some (.slice A131_3 ((rd_T47 ((rd_T43 l1_2 x5_2).f1) x8_4).f3).length c131_3) ∧ w'.cell? ⟨(ad131.add ((x8_4).toNat * 8)).block, (ad131.add ((x8_4).toNat * 8)).off + 4, none⟩ = some (.int .i64 ((rd_T47 ((rd_T43 l1_2 x5_2).f1) x8_4).f4)) ∧ w'.cell? ⟨(ad131.add ((x8_4).toNat * 8)).block, (ad131.add ((x8_4).toNat * 8)).off + 5, none⟩ = some (.int .i64 ((rd_T47 ((rd_T43 l1_2 x5_2).f1) x8_4).f5)) ∧ w'.cell? ⟨(ad131.add ((x8_4).toNat * 8)).block, (ad131.add ((x8_4).toNat * 8)).off + 6, none⟩ = some (.int .i64 ((rd_T47 ((rd_T43 l1_2 x5_2).f1) x8_4).f6)) ∧ w'.cell? ⟨(ad131.add ((x8_4).toNat * 8)).block, (ad131.add ((x8_4).toNat * 8)).off + 7, none⟩ = some (.slice A131_7 ((rd_T47 ((rd_T43 l1_2 x5_2).f1) x8_4).f7).length c131_7)) (ds := []) #[false, false, false, false, false, false, false, false, false, false, false, false] (by kernel_rfl) rfl rfl ⟨(blk_cell BK126.out 0).trans rfl, (blk_cell BK126.out 1).trans rfl, (blk_cell BK126.out 2).trans rfl, (blk_cell BK128.out 0).trans rfl, (blk_cell BK128.out 1).trans rfl, (blk_cell BK128.out 2).trans rfl, ((HB.out.cell (World.block_lt_of_cell? w _ hw130_0)).trans hw130_0), ((HB.out.cell (World.block_lt_of_cell? w _ hw130_1)).trans hw130_1), ((HB.out.cell (World.block_lt_of_cell? w _ hw130_2)).trans hw130_2), ((HB.out.cell (World.block_lt_of_cell? w _ hw130_3)).trans hw130_3), ((HB.out.cell (World.block_lt_of_cell? w _ hw130_4)).trans hw130_4), ((HB.out.cell (World.block_lt_of_cell? w _ hw130_5)).trans hw130_5), ((HB.out.cell (World.block_lt_of_cell? w _ hw130_6)).trans hw130_6), ((HB.out.cell (World.block_lt_of_cell? w _ hw130_7)).trans hw130_7), ((HB.out.cell (World.block_lt_of_cell? w _ hw131_0)).trans hw131_0), ((HB.out.cell (World.block_lt_of_cell? w _ hw131_1)).trans hw131_1), ((HB.out.cell (World.block_lt_of_cell? w _ hw131_2)).trans hw131_2), ((HB.out.cell (World.block_lt_of_cell? w _ hw131_3)).trans hw131_3), ((HB.out.cell (World.block_lt_of_cell? w _ hw131_4)).trans hw131_4), ((HB.out.cell (World.block_lt_of_cell? w _ hw131_5)).trans hw131_5), ((HB.out.cell (World.block_lt_of_cell? w _ hw131_6)).trans hw131_6), ((HB.out.cell (World.block_lt_of_cell? w _ hw131_7)).trans hw131_7)⟩ (fun hHeld => ?_); refine with_tabW portageref0_SameRegs.tab13 portageref0_SameRegs.bits13 (fun HT_ HW_ => ?_)
                                    generalize wr.drew = w68 at BK123 BK124 BK126 BK128 HB HR130_3 HR130_7 HR131_3 HR131_7 hx130_0 hx130_1 hx130_2 hx130_3 hx130_4 hx130_5 hx130_6 hx130_7 hx131_0 hx131_1 hx131_2 hx131_3 hx131_4 hx131_5 hx131_6 hx131_7 hHeld ⊢
                                    refine pure_ (i := 0) (N := some 76) (v := ?_) (a' := ?_) #[true, false, false, false, false, false, false, false, false, false, false, false] rfl rfl (any_of HT_.out (by kernel_rfl)) (fun _ _ _ h => h) (Or.inl ⟨by rfl, ?_⟩) ?_ ?_
                                    rotate_left
                                    · intro w'
                                      go_simp
                                      with_reducible rfl
                                    rotate_left
                                    · simp only [Act.put, List.setIfInBounds_toArray, List.set_cons_zero, List.set_cons_succ, i64_w, i32_w]
                                      rfl
                                    refine pure_ (i := 2) (N := some 78) (v := ?_) (a' := ?_) #[true, false, true, false, false, false, false, false, false, false, false, false] rfl rfl (any_of HT_.out (by kernel_rfl)) (fun _ _ _ h => h) (Or.inl ⟨by rfl, ?_⟩) ?_ ?_
                                    rotate_left
                                    · intro w'
                                      go_simp
                                      with_reducible rfl
                                    rotate_left
                                    · simp only [Act.put, List.setIfInBounds_toArray, List.set_cons_zero, List.set_cons_succ, i64_w, i32_w]
                                      rfl
                                    refine pure_ (i := 5) (N := some 81) (v := ?_) (a' := ?_) #[true, false, true, false, false, true, false, false, false, false, false, false] rfl rfl (any_of HT_.out (by kernel_rfl)) (fun _ _ _ h => h) (Or.inl ⟨by rfl, ?_⟩) ?_ ?_
                                    rotate_left
                                    · intro w'
                                      go_simp
                                      with_reducible rfl
                                    rotate_left
                                    · simp only [Act.put, List.setIfInBounds_toArray, List.set_cons_zero, List.set_cons_succ, i64_w, i32_w]
                                      rfl
                                    refine pure_ (i := 7) (N := some 83) (v := ?_) (a' := ?_) #[true, false, true, false, false, true, false, true, false, false, false, false] rfl rfl (any_of HT_.out (by kernel_rfl)) (fun _ _ _ h => h) (Or.inl ⟨by rfl, ?_⟩) ?_ ?_
                                    rotate_left
                                    · intro w'
                                      go_simp
                                      with_reducible rfl
                                    rotate_left
                                    · simp only [Act.put, List.setIfInBounds_toArray, List.set_cons_zero, List.set_cons_succ, i64_w, i32_w]
                                      rfl
                                    refine take_ (i := 1) (N := some 77) (v := ?_) (a' := ?_) #[true, true, true, false, false, true, false, true, false, false, false, false] rfl rfl (take_ofW HT_.out HW_.out (by kernel_rfl)) (fun _ _ _ h => h) (Or.inl ⟨by rfl, ?_⟩) hHeld ?_ ?_
                                    rotate_left
                                    · rintro w' ⟨s0, s1, s2, s3, s4, s5, s6, s7, s8, s9, s10, s11, s12, s13, s14, s15, s16, s17, s18, s19, s20, s21⟩
                                      go_simp
                                      with_reducible rfl
                                    rotate_left
                                    · simp only [Act.put, List.setIfInBounds_toArray, List.set_cons_zero, List.set_cons_succ, i64_w, i32_w]
                                      rfl
                                    refine pure_ (i := 3) (N := some 79) (v := ?_) (a' := ?_) #[true, true, true, true, false, true, false, true, false, false, false, false] rfl rfl (any_of HT_.out (by kernel_rfl)) (fun _ _ _ h => h) (Or.inl ⟨by rfl, ?_⟩) ?_ ?_
                                    rotate_left
                                    · intro w'
                                      go_simp
                                      with_reducible rfl
                                    rotate_left
                                    · simp only [Act.put, List.setIfInBounds_toArray, List.set_cons_zero, List.set_cons_succ, i64_w, i32_w]
                                      rfl
                                    refine take_ (i := 4) (N := some 80) (v := ?_) (a' := ?_) #[true, true, true, true, true, true, false, true, false, false, false, false] rfl rfl (take_ofW HT_.out HW_.out (by kernel_rfl)) (fun _ _ _ h => h) (Or.inl ⟨by rfl, ?_⟩) hHeld ?_ ?_
                                    rotate_left
                                    · rintro w' ⟨s0, s1, s2, s3, s4, s5, s6, s7, s8, s9, s10, s11, s12, s13, s14, s15, s16, s17, s18, s19, s20, s21⟩
                                      go_simp
                                      with_reducible rfl
                                    rotate_left
                                    · simp only [Act.put, List.setIfInBounds_toArray, List.set_cons_zero, List.set_cons_succ, i64_w, i32_w]
                                      rfl
                                    refine take_ (i := 6) (N := some 82) (v := ?_) (a' := ?_) #[true, true, true, true, true, true, true, true, false, false, false, false] rfl rfl (take_ofW HT_.out HW_.out (by kernel_rfl)) (fun _ _ _ h => h) (Or.inl ⟨by rfl, ?_⟩) hHeld ?_ ?_
                                    rotate_left
                                    · rintro w' ⟨s0, s1, s2, s3, s4, s5, s6, s7, s8, s9, s10, s11, s12, s13, s14, s15, s16, s17, s18, s19, s20, s21⟩
                                      go_simp
                                      with_reducible rfl
                                    rotate_left
                                    · simp only [Act.put, List.setIfInBounds_toArray, List.set_cons_zero, List.set_cons_succ, i64_w, i32_w]
                                      rfl
                                    refine pure_ (i := 8) (N := some 84) (v := ?_) (a' := ?_) #[true, true, true, true, true, true, true, true, true, false, false, false] rfl rfl (any_of HT_.out (by kernel_rfl)) (fun _ _ _ h => h) (Or.inl ⟨by rfl, ?_⟩) ?_ ?_
                                    rotate_left
                                    · intro w'
                                      go_simp
                                      with_reducible rfl
                                    rotate_left
                                    · simp only [Act.put, List.setIfInBounds_toArray, List.set_cons_zero, List.set_cons_succ, i64_w, i32_w]
                                      rfl
                                    refine take_ (i := 9) (N := some 85) (v := ?_) (a' := ?_) #[true, true, true, true, true, true, true, true, true, true, false, false] rfl rfl (take_ofW HT_.out HW_.out (by kernel_rfl)) (fun _ _ _ h => h) (Or.inl ⟨by rfl, ?_⟩) hHeld ?_ ?_
                                    rotate_left
                                    · rintro w' ⟨s0, s1, s2, s3, s4, s5, s6, s7, s8, s9, s10, s11, s12, s13, s14, s15, s16, s17, s18, s19, s20, s21⟩
                                      go_simp
                                      with_reducible rfl
                                    rotate_left
                                    · simp only [Act.put, List.setIfInBounds_toArray, List.set_cons_zero, List.set_cons_succ, i64_w, i32_w]
                                      rfl
                                    refine one_ (i := 10) (N := some 86) #[true, true, true, true, true, true, true, true, true, true, true, false] rfl rfl (one_of HT_.out (by kernel_rfl)) (by decide) (fun K hK => ?_)
                                    refine goes_ Try.func37 (by kernel_rfl) rfl #[.agg #[.int .i64 ((rd_T47 ((rd_T43 l0_2 x5_2).f1) x8_4).f0), .int .i64 ((rd_T47 ((rd_T43 l0_2 x5_2).f1) x8_4).f1), .int .i64 ((rd_T47 ((rd_T43 l0_2 x5_2).f1) x8_4).f2), .slice A130_3 ((rd_T47 ((rd_T43 l0_2 x5_2).f1) x8_4).f3).length c130_3, .int .i64 ((rd_T47 ((rd_T43 l0_2 x5_2).f1) x8_4).f4), .int .i64 ((rd_T47 ((rd_T43 l0_2 x5_2).f1) x8_4).f5), .int .i64 ((rd_T47 ((rd_T43 l0_2 x5_2).f1) x8_4).f6), .slice A130_7 ((rd_T47 ((rd_T43 l0_2 x5_2).f1) x8_4).f7).length c130_7], .agg #[.int .i64 ((rd_T47 ((rd_T43 l1_2 x5_2).f1) x8_4).f0), .int .i64 ((rd_T47 ((rd_T43 l1_2 x5_2).f1) x8_4).f1), .int .i64 ((rd_T47 ((rd_T43 l1_2 x5_2).f1) x8_4).f2), .slice A131_3 ((rd_T47 ((rd_T43 l1_2 x5_2).f1) x8_4).f3).length c131_3, .int .i64 ((rd_T47 ((rd_T43 l1_2 x5_2).f1) x8_4).f4), .int .i64 ((rd_T47 ((rd_T43 l1_2 x5_2).f1) x8_4).f5), .int .i64 ((rd_T47 ((rd_T43 l1_2 x5_2).f1) x8_4).f6), .slice A131_7 ((rd_T47 ((rd_T43 l1_2 x5_2).f1) x8_4).f7).length c131_7]] (by rfl) rfl rfl (by (try simp only [List.map_toArray, List.map_cons, List.map_nil]); first | done | rfl | (simp only [List.length_drop, List.length_take]; rfl)) ?_
                                    with_reducible refine (portageref0_SameIns.calls k4 ((rd_T47 ((rd_T43 l0_2 x5_2).f1) x8_4).f0) ((rd_T47 ((rd_T43 l0_2 x5_2).f1) x8_4).f1) ((rd_T47 ((rd_T43 l0_2 x5_2).f1) x8_4).f2) _ _ ((rd_T47 ((rd_T43 l0_2 x5_2).f1) x8_4).f3) ((rd_T47 ((rd_T43 l0_2 x5_2).f1) x8_4).f4) ((rd_T47 ((rd_T43 l0_2 x5_2).f1) x8_4).f5) ((rd_T47 ((rd_T43 l0_2 x5_2).f1) x8_4).f6) _ _ ((rd_T47 ((rd_T43 l0_2 x5_2).f1) x8_4).f7) ((rd_T47 ((rd_T43 l1_2 x5_2).f1) x8_4).f0) ((rd_T47 ((rd_T43 l1_2 x5_2).f1) x8_4).f1) ((rd_T47 ((rd_T43 l1_2 x5_2).f1) x8_4).f2) _ _ ((rd_T47 ((rd_T43 l1_2 x5_2).f1) x8_4).f3) ((rd_T47 ((rd_T43 l1_2 x5_2).f1) x8_4).f4) ((rd_T47 ((rd_T43 l1_2 x5_2).f1) x8_4).f5) ((rd_T47 ((rd_T43 l1_2 x5_2).f1) x8_4).f6) _ _ ((rd_T47 ((rd_T43 l1_2 x5_2).f1) x8_4).f7) true _ ?side1 ?side2 ?side3 ?side4 ?side5 ?side6 ?side7 ?side8 A62.out).mono ?_
                                    (case side1 => repeat (first | exact (Kd.C_below HR130_3.out HB.out) | (with_reducible refine Kd.C_alloc ?_ _) | (with_reducible refine Kd.C_drewN ?_ _) | (with_reducible refine Kd.C_drew ?_)))
                                    (case side2 => exact HC130_3.out)
                                    (case side3 => repeat (first | exact (Kd.C_below HR130_7.out HB.out) | (with_reducible refine Kd.C_alloc ?_ _) | (with_reducible refine Kd.C_drewN ?_ _) | (with_reducible refine Kd.C_drew ?_)))
                                    (case side4 => exact HC130_7.out)
                                    (case side5 => repeat (first | exact (Kd.C_below HR131_3.out HB.out) | (with_reducible refine Kd.C_alloc ?_ _) | (with_reducible refine Kd.C_drewN ?_ _) | (with_reducible refine Kd.C_drew ?_)))
                                    (case side6 => exact HC131_3.out)
                                    (case side7 => repeat (first | exact (Kd.C_below HR131_7.out HB.out) | (with_reducible refine Kd.C_alloc ?_ _) | (with_reducible refine Kd.C_drewN ?_ _) | (with_reducible refine Kd.C_drew ?_)))
                                    (case side8 => exact HC131_7.out)
                                    rintro e w69 ⟨rfl, hb⟩
                                    refine ⟨_, rfl, ?_⟩
                                    have n0_ := Aside0.mk (blk_below (g := gb123) (o := .cells #[.int .i64 a0_0, .int .i64 a0_1, .slice (some ad125) l0_2.length c0_2] 24 (0, 0)) (by (with_reducible repeat (first | refine blk_drewN ?_ _ | refine blk_drew ?_ | refine blk_alloc ?_ _)); exact BK123.out) hb)
                                    have n1_ := Aside0.mk (blk_below (g := gb124) (o := .cells #[.int .i64 a1_0, .int .i64 a1_1, .slice (some ad127) l1_2.length c1_2] 24 (0, 0)) (by (with_reducible repeat (first | refine blk_drewN ?_ _ | refine blk_drew ?_ | refine blk_alloc ?_ _)); exact BK124.out) hb)
                                    have n2_ := Aside0.mk (blk_below (g := gb126) (o := .cells #[.int .i64 ((rd_T43 l0_2 x5_2).f0), .slice (some ad130) ((rd_T43 l0_2 x5_2).f1).length c125_1, .slice A125_2 ((rd_T43 l0_2 x5_2).f2).length c125_2] 43 (0, 0)) (by (with_reducible repeat (first | refine blk_drewN ?_ _ | refine blk_drew ?_ | refine blk_alloc ?_ _)); exact BK126.out) hb)
                                    have n3_ := Aside0.mk (blk_below (g := gb128) (o := .cells #[.int .i64 ((rd_T43 l1_2 x5_2).f0), .slice (some ad131) ((rd_T43 l1_2 x5_2).f1).length c127_1, .slice A127_2 ((rd_T43 l1_2 x5_2).f2).length c127_2] 43 (0, 0)) (by (with_reducible repeat (first | refine blk_drewN ?_ _ | refine blk_drew ?_ | refine blk_alloc ?_ _)); exact BK128.out) hb)
                                    have n4_ := Aside0.mk (below_step (by repeat (first | (with_reducible first | exact HB.out | apply below_alloc | apply pw_below_drewN | apply below_drew1 | refine below_set ?_ GE123.out | refine below_set ?_ GE124.out | refine below_set ?_ GE126.out | refine below_set ?_ GE128.out) | exact HB.out)) hb)
                                    clear BK123
                                    clear BK124
                                    clear BK126
                                    clear BK128
                                    clear HB
                                    have BK123 := n0_
                                    have BK124 := n1_
                                    have BK126 := n2_
                                    have BK128 := n3_
                                    have HB := n4_
                                    clear n0_ n1_ n2_ n3_ n4_
                                    (try clear hb)
                                    (try clear hb2)
                                    (try clear hk)
                                    (try clear hi)
                                    refine hK.out _ _ ⟨(blk_cell BK126.out 0).trans rfl, (blk_cell BK126.out 1).trans rfl, (blk_cell BK126.out 2).trans rfl, (blk_cell BK128.out 0).trans rfl, (blk_cell BK128.out 1).trans rfl, (blk_cell BK128.out 2).trans rfl, ((HB.out.cell (World.block_lt_of_cell? w _ hw130_0)).trans hw130_0), ((HB.out.cell (World.block_lt_of_cell? w _ hw130_1)).trans hw130_1), ((HB.out.cell (World.block_lt_of_cell? w _ hw130_2)).trans hw130_2), ((HB.out.cell (World.block_lt_of_cell? w _ hw130_3)).trans hw130_3), ((HB.out.cell (World.block_lt_of_cell? w _ hw130_4)).trans hw130_4), ((HB.out.cell (World.block_lt_of_cell? w _ hw130_5)).trans hw130_5), ((HB.out.cell (World.block_lt_of_cell? w _ hw130_6)).trans hw130_6), ((HB.out.cell (World.block_lt_of_cell? w _ hw130_7)).trans hw130_7), ((HB.out.cell (World.block_lt_of_cell? w _ hw131_0)).trans hw131_0), ((HB.out.cell (World.block_lt_of_cell? w _ hw131_1)).trans hw131_1), ((HB.out.cell (World.block_lt_of_cell? w _ hw131_2)).trans hw131_2), ((HB.out.cell (World.block_lt_of_cell? w _ hw131_3)).trans hw131_3), ((HB.out.cell (World.block_lt_of_cell? w _ hw131_4)).trans hw131_4), ((HB.out.cell (World.block_lt_of_cell? w _ hw131_5)).trans hw131_5), ((HB.out.cell (World.block_lt_of_cell? w _ hw131_6)).trans hw131_6), ((HB.out.cell (World.block_lt_of_cell? w _ hw131_7)).trans hw131_7)⟩ (fun hHeld => ?_)
                                    clear hK K
                                    refine norm_ (a' := ?_) ?_ ?_
                                    rotate_left
                                    · show Act.put _ (some 86) _ = _
                                      simp only [Act.put, List.setIfInBounds_toArray, List.set_cons_zero, List.set_cons_succ, i64_w, i32_w]
                                      rfl
                                    refine pure_ (i := 11) (N := some 87) (v := ?_) (a' := ?_) #[true, true, true, true, true, true, true, true, true, true, true, true] rfl rfl (any_of HT_.out (by kernel_rfl)) (fun _ _ _ h => h) (Or.inl ⟨by rfl, ?_⟩) ?_ ?_
                                    rotate_left
                                    · intro w'
                                      go_simp
                                      with_reducible rfl
                                    rotate_left
                                    · simp only [Act.put, List.setIfInBounds_toArray, List.set_cons_zero, List.set_cons_succ, i64_w, i32_w]
                                      rfl
                                    refine done_ (done_of HT_.out (by kernel_rfl)) ?_
                                    try go_wp2
                                    go_roundg k4
                                    case measure => have := HJ2.out; have := HK2.out; have := HJ20.out; have := HK4.out; omega
                                    case rel => exact ⟨(wrap64 (x8_4 + 1)), (by first | rfl | (simp; done) | (simp [*]; done)), H', ⟨by have := HJ2.out; have := HK2.out; have := HJ20.out; have := HK4.out; omega⟩, ⟨by (with_reducible repeat (first | refine blk_drewN ?_ _ | refine blk_drew ?_ | refine blk_alloc ?_ _)); exact BK123.out⟩, ⟨by (with_reducible repeat (first | refine blk_drewN ?_ _ | refine blk_drew ?_ | refine blk_alloc ?_ _)); exact BK124.out⟩, ⟨by (with_reducible repeat (first | refine blk_drewN ?_ _ | refine blk_drew ?_ | refine blk_alloc ?_ _)); exact BK126.out⟩, ⟨by (with_reducible repeat (first | refine blk_drewN ?_ _ | refine blk_drew ?_ | refine blk_alloc ?_ _)); exact BK128.out⟩, ⟨by repeat (first | (with_reducible first | exact HB.out | apply below_alloc | apply pw_below_drewN | apply below_drew1 | refine below_set ?_ GE123.out | refine below_set ?_ GE124.out | refine below_set ?_ GE126.out | refine below_set ?_ GE128.out) | exact HB.out)⟩⟩
                                  · replace c63 := Bool.eq_false_iff.mpr c63
                                    subst c63
                                    have H1 : (some false) = some r := by rw [if_neg (show ¬ (false = true) by decide)] at H; exact H
                                    clear H
                                    have H := H1
                                    clear H1
                                    obtain rfl := Option.some.inj H
                                    have hnb70 := NB126_123.out
                                    have hnc70 := NB123_126.out
                                    have hnb71 := NB126_124.out
                                    have hnc71 := NB124_126.out
                                    have hnb72 := NB126_128.out
                                    have hnc72 := NB128_126.out
                                    have hcz73_0 : wr.cell? ⟨gb126, 0, none⟩ = some (.int .i64 ((rd_T43 l0_2 x5_2).f0)) := (blk_cell BK126.out 0).trans rfl
                                    have hcz73_1 : wr.cell? ⟨gb126, 1, none⟩ = some (.slice A125_1 ((rd_T43 l0_2 x5_2).f1).length c125_1) := (blk_cell BK126.out 1).trans rfl
                                    have hcz73_2 : wr.cell? ⟨gb126, 2, none⟩ = some (.slice A125_2 ((rd_T43 l0_2 x5_2).f2).length c125_2) := (blk_cell BK126.out 2).trans rfl
                                    have hfz73_0 := blk_frozen BK126.out 0
                                    have hfz73_1 := blk_frozen BK126.out 1
                                    have hfz73_2 := blk_frozen BK126.out 2
                                    try go_wp2
                                    have n0_ := Aside0.mk (blk_drew BK123.out)
                                    have n1_ := Aside0.mk (blk_drew BK124.out)
                                    have n2_ := Aside0.mk (blk_drew BK126.out)
                                    have n3_ := Aside0.mk (blk_drew BK128.out)
                                    have n4_ := Aside0.mk (below_drew1 HB.out)
                                    clear BK123
                                    clear BK124
                                    clear BK126
                                    clear BK128
                                    clear HB
                                    have BK123 := n0_
                                    have BK124 := n1_
                                    have BK126 := n2_
                                    have BK128 := n3_
                                    have HB := n4_
                                    clear n0_ n1_ n2_ n3_ n4_
                                    have p130 : 0 ≤ (x8_4 : Int) := of_decide_eq_true (by first | (with_reducible assumption) | assumption)
                                    have q130 : x8_4 < (((rd_T43 l0_2 x5_2).f1).length : Int) := of_decide_eq_true (by first | (with_reducible assumption) | assumption)
                                    obtain ⟨ad130, A130_3, c130_3, A130_7, c130_7, e130, hx130_0, hx130_1, hx130_2, hx130_3, hx130_4, hx130_5, hx130_6, hx130_7, hl130_3, hi130_3, hl130_7, hi130_7⟩ := at_T47 HR125_1.out x8_4 p130 q130
                                    have hw130_7 := hx130_7
                                    have hw130_6 := hx130_6
                                    have hw130_5 := hx130_5
                                    have hw130_4 := hx130_4
                                    have hw130_3 := hx130_3
                                    have hw130_2 := hx130_2
                                    have hw130_1 := hx130_1
                                    have hw130_0 := hx130_0
                                    cases e130
                                    replace hx130_0 := (HB.out.cell (World.block_lt_of_cell? w _ hx130_0)).trans hx130_0
                                    replace hx130_1 := (HB.out.cell (World.block_lt_of_cell? w _ hx130_1)).trans hx130_1
                                    replace hx130_2 := (HB.out.cell (World.block_lt_of_cell? w _ hx130_2)).trans hx130_2
                                    replace hx130_3 := (HB.out.cell (World.block_lt_of_cell? w _ hx130_3)).trans hx130_3
                                    replace hx130_4 := (HB.out.cell (World.block_lt_of_cell? w _ hx130_4)).trans hx130_4
                                    replace hx130_5 := (HB.out.cell (World.block_lt_of_cell? w _ hx130_5)).trans hx130_5
                                    replace hx130_6 := (HB.out.cell (World.block_lt_of_cell? w _ hx130_6)).trans hx130_6
                                    replace hx130_7 := (HB.out.cell (World.block_lt_of_cell? w _ hx130_7)).trans hx130_7
                                    have HR130_3 := Aside0.mk hi130_3
                                    have HC130_3 := Aside0.mk hl130_3
                                    clear hi130_3 hl130_3
                                    have HR130_7 := Aside0.mk hi130_7
                                    have HC130_7 := Aside0.mk hl130_7
                                    clear hi130_7 hl130_7
                                    replace p130 := eq_true p130
                                    replace q130 := eq_true q130
                                    have p131 : 0 ≤ (x8_4 : Int) := of_decide_eq_true (by first | (with_reducible assumption) | assumption)
                                    have q131 : x8_4 < (((rd_T43 l1_2 x5_2).f1).length : Int) := of_decide_eq_true (by first | (with_reducible assumption) | assumption)
                                    obtain ⟨ad131, A131_3, c131_3, A131_7, c131_7, e131, hx131_0, hx131_1, hx131_2, hx131_3, hx131_4, hx131_5, hx131_6, hx131_7, hl131_3, hi131_3, hl131_7, hi131_7⟩ := at_T47 HR127_1.out x8_4 p131 q131
                                    have hw131_7 := hx131_7
                                    have hw131_6 := hx131_6
                                    have hw131_5 := hx131_5
                                    have hw131_4 := hx131_4
                                    have hw131_3 := hx131_3
                                    have hw131_2 := hx131_2
                                    have hw131_1 := hx131_1
                                    have hw131_0 := hx131_0
                                    cases e131
                                    replace hx131_0 := (HB.out.cell (World.block_lt_of_cell? w _ hx131_0)).trans hx131_0
                                    replace hx131_1 := (HB.out.cell (World.block_lt_of_cell? w _ hx131_1)).trans hx131_1
                                    replace hx131_2 := (HB.out.cell (World.block_lt_of_cell? w _ hx131_2)).trans hx131_2
                                    replace hx131_3 := (HB.out.cell (World.block_lt_of_cell? w _ hx131_3)).trans hx131_3
                                    replace hx131_4 := (HB.out.cell (World.block_lt_of_cell? w _ hx131_4)).trans hx131_4
                                    replace hx131_5 := (HB.out.cell (World.block_lt_of_cell? w _ hx131_5)).trans hx131_5
                                    replace hx131_6 := (HB.out.cell (World.block_lt_of_cell? w _ hx131_6)).trans hx131_6
                                    replace hx131_7 := (HB.out.cell (World.block_lt_of_cell? w _ hx131_7)).trans hx131_7
                                    have HR131_3 := Aside0.mk hi131_3
                                    have HC131_3 := Aside0.mk hl131_3
                                    clear hi131_3 hl131_3
                                    have HR131_7 := Aside0.mk hi131_7
                                    have HC131_7 := Aside0.mk hl131_7
                                    clear hi131_7 hl131_7
                                    replace p131 := eq_true p131
                                    replace q131 := eq_true q131
                                    refine start_ (n := 12) (S := fun w' => w'.cell? ⟨gb126, 0, none⟩ = some (.int .i64 ((rd_T43 l0_2 x5_2).f0)) ∧ w'.cell? ⟨gb126, 1, none⟩ = some (.slice (some ad130) ((rd_T43 l0_2 x5_2).f1).length c125_1) ∧ w'.cell? ⟨gb126, 2, none⟩ = some (.slice A125_2 ((rd_T43 l0_2 x5_2).f2).length c125_2) ∧ w'.cell? ⟨gb128, 0, none⟩ = some (.int .i64 ((rd_T43 l1_2 x5_2).f0)) ∧ w'.cell? ⟨gb128, 1, none⟩ = some (.slice (some ad131) ((rd_T43 l1_2 x5_2).f1).length c127_1) ∧ w'.cell? ⟨gb128, 2, none⟩ = some (.slice A127_2 ((rd_T43 l1_2 x5_2).f2).length c127_2) ∧ w'.cell? (ad130.add ((x8_4).toNat * 8)) = some (.int .i64 ((rd_T47 ((rd_T43 l0_2 x5_2).f1) x8_4).f0)) ∧ w'.cell? ⟨(ad130.add ((x8_4).toNat * 8)).block, (ad130.add ((x8_4).toNat * 8)).off + 1, none⟩ = some (.int .i64 ((rd_T47 ((rd_T43 l0_2 x5_2).f1) x8_4).f1)) ∧ w'.cell? ⟨(ad130.add ((x8_4).toNat * 8)).block, (ad130.add ((x8_4).toNat * 8)).off + 2, none⟩ = some (.int .i64 ((rd_T47 ((rd_T43 l0_2 x5_2).f1) x8_4).f2)) ∧ w'.cell? ⟨(ad130.add ((x8_4).toNat * 8)).block, (ad130.add ((x8_4).toNat * 8)).off + 3, none⟩ = some (.slice A130_3 ((rd_T47 ((rd_T43 l0_2 x5_2).f1) x8_4).f3).length c130_3) ∧ w'.cell? ⟨(ad130.add ((x8_4).toNat * 8)).block, (ad130.add ((x8_4).toNat * 8)).off + 4, none⟩ = some (.int .i64 ((rd_T47 ((rd_T43 l0_2 x5_2).f1) x8_4).f4)) ∧ w'.cell? ⟨(ad130.add ((x8_4).toNat * 8)).block, (ad130.add ((x8_4).toNat * 8)).off + 5, none⟩ = some (.int .i64 ((rd_T47 ((rd_T43 l0_2 x5_2).f1) x8_4).f5)) ∧ w'.cell? ⟨(ad130.add ((x8_4).toNat * 8)).block, (ad130.add ((x8_4).toNat * 8)).off + 6, none⟩ = some (.int .i64 ((rd_T47 ((rd_T43 l0_2 x5_2).f1) x8_4).f6)) ∧ w'.cell? ⟨(ad130.add ((x8_4).toNat * 8)).block, (ad130.add ((x8_4).toNat * 8)).off + 7, none⟩ = some (.slice A130_7 ((rd_T47 ((rd_T43 l0_2 x5_2).f1) x8_4).f7).length c130_7) ∧ w'.cell? (ad131.add ((x8_4).toNat * 8)) = some (.int .i64 ((rd_T47 ((rd_T43 l1_2 x5_2).f1) x8_4).f0)) ∧ w'.cell? ⟨(ad131.add ((x8_4).toNat * 8)).block, (ad131.add ((x8_4).toNat * 8)).off + 1, none⟩ = some (.int .i64 ((rd_T47 ((rd_T43 l1_2 x5_2).f1) x8_4).f1)) ∧ w'.cell? ⟨(ad131.add ((x8_4).toNat * 8)).block, (ad131.add ((x8_4).toNat * 8)).off + 2, none⟩ = some (.int .i64 ((rd_T47 ((rd_T43 l1_2 x5_2).f1) x8_4).f2)) ∧ w'.cell? ⟨(ad131.add ((x8_4).toNat * 8)).block, (ad131.add ((x8_4).toNat * 8)).off + 3, none⟩ = some (.slice A131_3 ((rd_T47 ((rd_T43 l1_2 x5_2).f1) x8_4).f3).length c131_3) ∧ w'.cell? ⟨(ad131.add ((x8_4).toNat * 8)).block, (ad131.add ((x8_4).toNat * 8)).off + 4, none⟩ = some (.int .i64 ((rd_T47 ((rd_T43 l1_2 x5_2).f1) x8_4).f4)) ∧ w'.cell? ⟨(ad131.add ((x8_4).toNat * 8)).block, (ad131.add ((x8_4).toNat * 8)).off + 5, none⟩ = some (.int .i64 ((rd_T47 ((rd_T43 l1_2 x5_2).f1) x8_4).f5)) ∧ w'.cell? ⟨(ad131.add ((x8_4).toNat * 8)).block, (ad131.add ((x8_4).toNat * 8)).off + 6, none⟩ = some (.int .i64 ((rd_T47 ((rd_T43 l1_2 x5_2).f1) x8_4).f6)) ∧ w'.cell? ⟨(ad131.add ((x8_4).toNat * 8)).block, (ad131.add ((x8_4).toNat * 8)).off + 7, none⟩ = some (.slice A131_7 ((rd_T47 ((rd_T43 l1_2 x5_2).f1) x8_4).f7).length c131_7)) (ds := []) #[false, false, false, false, false, false, false, false, false, false, false, false] (by kernel_rfl) rfl rfl ⟨(blk_cell BK126.out 0).trans rfl, (blk_cell BK126.out 1).trans rfl, (blk_cell BK126.out 2).trans rfl, (blk_cell BK128.out 0).trans rfl, (blk_cell BK128.out 1).trans rfl, (blk_cell BK128.out 2).trans rfl, ((HB.out.cell (World.block_lt_of_cell? w _ hw130_0)).trans hw130_0), ((HB.out.cell (World.block_lt_of_cell? w _ hw130_1)).trans hw130_1), ((HB.out.cell (World.block_lt_of_cell? w _ hw130_2)).trans hw130_2), ((HB.out.cell (World.block_lt_of_cell? w _ hw130_3)).trans hw130_3), ((HB.out.cell (World.block_lt_of_cell? w _ hw130_4)).trans hw130_4), ((HB.out.cell (World.block_lt_of_cell? w _ hw130_5)).trans hw130_5), ((HB.out.cell (World.block_lt_of_cell? w _ hw130_6)).trans hw130_6), ((HB.out.cell (World.block_lt_of_cell? w _ hw130_7)).trans hw130_7), ((HB.out.cell (World.block_lt_of_cell? w _ hw131_0)).trans hw131_0), ((HB.out.cell (World.block_lt_of_cell? w _ hw131_1)).trans hw131_1), ((HB.out.cell (World.block_lt_of_cell? w _ hw131_2)).trans hw131_2), ((HB.out.cell (World.block_lt_of_cell? w _ hw131_3)).trans hw131_3), ((HB.out.cell (World.block_lt_of_cell? w _ hw131_4)).trans hw131_4), ((HB.out.cell (World.block_lt_of_cell? w _ hw131_5)).trans hw131_5), ((HB.out.cell (World.block_lt_of_cell? w _ hw131_6)).trans hw131_6), ((HB.out.cell (World.block_lt_of_cell? w _ hw131_7)).trans hw131_7)⟩ (fun hHeld => ?_); refine with_tabW portageref0_SameRegs.tab13 portageref0_SameRegs.bits13 (fun HT_ HW_ => ?_)
                                    generalize wr.drew = w74 at BK123 BK124 BK126 BK128 HB HR130_3 HR130_7 HR131_3 HR131_7 hx130_0 hx130_1 hx130_2 hx130_3 hx130_4 hx130_5 hx130_6 hx130_7 hx131_0 hx131_1 hx131_2 hx131_3 hx131_4 hx131_5 hx131_6 hx131_7 hHeld ⊢
                                    refine pure_ (i := 0) (N := some 76) (v := ?_) (a' := ?_) #[true, false, false, false, false, false, false, false, false, false, false, false] rfl rfl (any_of HT_.out (by kernel_rfl)) (fun _ _ _ h => h) (Or.inl ⟨by rfl, ?_⟩) ?_ ?_
                                    rotate_left
                                    · intro w'
                                      go_simp
                                      with_reducible rfl
                                    rotate_left
                                    · simp only [Act.put, List.setIfInBounds_toArray, List.set_cons_zero, List.set_cons_succ, i64_w, i32_w]
                                      rfl
                                    refine pure_ (i := 2) (N := some 78) (v := ?_) (a' := ?_) #[true, false, true, false, false, false, false, false, false, false, false, false] rfl rfl (any_of HT_.out (by kernel_rfl)) (fun _ _ _ h => h) (Or.inl ⟨by rfl, ?_⟩) ?_ ?_
                                    rotate_left
                                    · intro w'
                                      go_simp
                                      with_reducible rfl
                                    rotate_left
                                    · simp only [Act.put, List.setIfInBounds_toArray, List.set_cons_zero, List.set_cons_succ, i64_w, i32_w]
                                      rfl
                                    refine pure_ (i := 5) (N := some 81) (v := ?_) (a' := ?_) #[true, false, true, false, false, true, false, false, false, false, false, false] rfl rfl (any_of HT_.out (by kernel_rfl)) (fun _ _ _ h => h) (Or.inl ⟨by rfl, ?_⟩) ?_ ?_
                                    rotate_left
                                    · intro w'
                                      go_simp
                                      with_reducible rfl
                                    rotate_left
                                    · simp only [Act.put, List.setIfInBounds_toArray, List.set_cons_zero, List.set_cons_succ, i64_w, i32_w]
                                      rfl
                                    refine pure_ (i := 7) (N := some 83) (v := ?_) (a' := ?_) #[true, false, true, false, false, true, false, true, false, false, false, false] rfl rfl (any_of HT_.out (by kernel_rfl)) (fun _ _ _ h => h) (Or.inl ⟨by rfl, ?_⟩) ?_ ?_
                                    rotate_left
                                    · intro w'
                                      go_simp
                                      with_reducible rfl
                                    rotate_left
                                    · simp only [Act.put, List.setIfInBounds_toArray, List.set_cons_zero, List.set_cons_succ, i64_w, i32_w]
                                      rfl
                                    refine take_ (i := 1) (N := some 77) (v := ?_) (a' := ?_) #[true, true, true, false, false, true, false, true, false, false, false, false] rfl rfl (take_ofW HT_.out HW_.out (by kernel_rfl)) (fun _ _ _ h => h) (Or.inl ⟨by rfl, ?_⟩) hHeld ?_ ?_
                                    rotate_left
                                    · rintro w' ⟨s0, s1, s2, s3, s4, s5, s6, s7, s8, s9, s10, s11, s12, s13, s14, s15, s16, s17, s18, s19, s20, s21⟩
                                      go_simp
                                      with_reducible rfl
                                    rotate_left
                                    · simp only [Act.put, List.setIfInBounds_toArray, List.set_cons_zero, List.set_cons_succ, i64_w, i32_w]
                                      rfl
                                    refine pure_ (i := 3) (N := some 79) (v := ?_) (a' := ?_) #[true, true, true, true, false, true, false, true, false, false, false, false] rfl rfl (any_of HT_.out (by kernel_rfl)) (fun _ _ _ h => h) (Or.inl ⟨by rfl, ?_⟩) ?_ ?_
                                    rotate_left
                                    · intro w'
                                      go_simp
                                      with_reducible rfl
                                    rotate_left
                                    · simp only [Act.put, List.setIfInBounds_toArray, List.set_cons_zero, List.set_cons_succ, i64_w, i32_w]
                                      rfl
                                    refine take_ (i := 4) (N := some 80) (v := ?_) (a' := ?_) #[true, true, true, true, true, true, false, true, false, false, false, false] rfl rfl (take_ofW HT_.out HW_.out (by kernel_rfl)) (fun _ _ _ h => h) (Or.inl ⟨by rfl, ?_⟩) hHeld ?_ ?_
                                    rotate_left
                                    · rintro w' ⟨s0, s1, s2, s3, s4, s5, s6, s7, s8, s9, s10, s11, s12, s13, s14, s15, s16, s17, s18, s19, s20, s21⟩
                                      go_simp
                                      with_reducible rfl
                                    rotate_left
                                    · simp only [Act.put, List.setIfInBounds_toArray, List.set_cons_zero, List.set_cons_succ, i64_w, i32_w]
                                      rfl
                                    refine take_ (i := 6) (N := some 82) (v := ?_) (a' := ?_) #[true, true, true, true, true, true, true, true, false, false, false, false] rfl rfl (take_ofW HT_.out HW_.out (by kernel_rfl)) (fun _ _ _ h => h) (Or.inl ⟨by rfl, ?_⟩) hHeld ?_ ?_
                                    rotate_left
                                    · rintro w' ⟨s0, s1, s2, s3, s4, s5, s6, s7, s8, s9, s10, s11, s12, s13, s14, s15, s16, s17, s18, s19, s20, s21⟩
                                      go_simp
                                      with_reducible rfl
                                    rotate_left
                                    · simp only [Act.put, List.setIfInBounds_toArray, List.set_cons_zero, List.set_cons_succ, i64_w, i32_w]
                                      rfl
                                    refine pure_ (i := 8) (N := some 84) (v := ?_) (a' := ?_) #[true, true, true, true, true, true, true, true, true, false, false, false] rfl rfl (any_of HT_.out (by kernel_rfl)) (fun _ _ _ h => h) (Or.inl ⟨by rfl, ?_⟩) ?_ ?_
                                    rotate_left
                                    · intro w'
                                      go_simp
                                      with_reducible rfl
                                    rotate_left
                                    · simp only [Act.put, List.setIfInBounds_toArray, List.set_cons_zero, List.set_cons_succ, i64_w, i32_w]
                                      rfl
                                    refine take_ (i := 9) (N := some 85) (v := ?_) (a' := ?_) #[true, true, true, true, true, true, true, true, true, true, false, false] rfl rfl (take_ofW HT_.out HW_.out (by kernel_rfl)) (fun _ _ _ h => h) (Or.inl ⟨by rfl, ?_⟩) hHeld ?_ ?_
                                    rotate_left
                                    · rintro w' ⟨s0, s1, s2, s3, s4, s5, s6, s7, s8, s9, s10, s11, s12, s13, s14, s15, s16, s17, s18, s19, s20, s21⟩
                                      go_simp
                                      with_reducible rfl
                                    rotate_left
                                    · simp only [Act.put, List.setIfInBounds_toArray, List.set_cons_zero, List.set_cons_succ, i64_w, i32_w]
                                      rfl
                                    refine one_ (i := 10) (N := some 86) #[true, true, true, true, true, true, true, true, true, true, true, false] rfl rfl (one_of HT_.out (by kernel_rfl)) (by decide) (fun K hK => ?_)
                                    refine goes_ Try.func37 (by kernel_rfl) rfl #[.agg #[.int .i64 ((rd_T47 ((rd_T43 l0_2 x5_2).f1) x8_4).f0), .int .i64 ((rd_T47 ((rd_T43 l0_2 x5_2).f1) x8_4).f1), .int .i64 ((rd_T47 ((rd_T43 l0_2 x5_2).f1) x8_4).f2), .slice A130_3 ((rd_T47 ((rd_T43 l0_2 x5_2).f1) x8_4).f3).length c130_3, .int .i64 ((rd_T47 ((rd_T43 l0_2 x5_2).f1) x8_4).f4), .int .i64 ((rd_T47 ((rd_T43 l0_2 x5_2).f1) x8_4).f5), .int .i64 ((rd_T47 ((rd_T43 l0_2 x5_2).f1) x8_4).f6), .slice A130_7 ((rd_T47 ((rd_T43 l0_2 x5_2).f1) x8_4).f7).length c130_7], .agg #[.int .i64 ((rd_T47 ((rd_T43 l1_2 x5_2).f1) x8_4).f0), .int .i64 ((rd_T47 ((rd_T43 l1_2 x5_2).f1) x8_4).f1), .int .i64 ((rd_T47 ((rd_T43 l1_2 x5_2).f1) x8_4).f2), .slice A131_3 ((rd_T47 ((rd_T43 l1_2 x5_2).f1) x8_4).f3).length c131_3, .int .i64 ((rd_T47 ((rd_T43 l1_2 x5_2).f1) x8_4).f4), .int .i64 ((rd_T47 ((rd_T43 l1_2 x5_2).f1) x8_4).f5), .int .i64 ((rd_T47 ((rd_T43 l1_2 x5_2).f1) x8_4).f6), .slice A131_7 ((rd_T47 ((rd_T43 l1_2 x5_2).f1) x8_4).f7).length c131_7]] (by rfl) rfl rfl (by (try simp only [List.map_toArray, List.map_cons, List.map_nil]); first | done | rfl | (simp only [List.length_drop, List.length_take]; rfl)) ?_
                                    with_reducible refine (portageref0_SameIns.calls k4 ((rd_T47 ((rd_T43 l0_2 x5_2).f1) x8_4).f0) ((rd_T47 ((rd_T43 l0_2 x5_2).f1) x8_4).f1) ((rd_T47 ((rd_T43 l0_2 x5_2).f1) x8_4).f2) _ _ ((rd_T47 ((rd_T43 l0_2 x5_2).f1) x8_4).f3) ((rd_T47 ((rd_T43 l0_2 x5_2).f1) x8_4).f4) ((rd_T47 ((rd_T43 l0_2 x5_2).f1) x8_4).f5) ((rd_T47 ((rd_T43 l0_2 x5_2).f1) x8_4).f6) _ _ ((rd_T47 ((rd_T43 l0_2 x5_2).f1) x8_4).f7) ((rd_T47 ((rd_T43 l1_2 x5_2).f1) x8_4).f0) ((rd_T47 ((rd_T43 l1_2 x5_2).f1) x8_4).f1) ((rd_T47 ((rd_T43 l1_2 x5_2).f1) x8_4).f2) _ _ ((rd_T47 ((rd_T43 l1_2 x5_2).f1) x8_4).f3) ((rd_T47 ((rd_T43 l1_2 x5_2).f1) x8_4).f4) ((rd_T47 ((rd_T43 l1_2 x5_2).f1) x8_4).f5) ((rd_T47 ((rd_T43 l1_2 x5_2).f1) x8_4).f6) _ _ ((rd_T47 ((rd_T43 l1_2 x5_2).f1) x8_4).f7) false _ ?side1 ?side2 ?side3 ?side4 ?side5 ?side6 ?side7 ?side8 A62.out).mono ?_
                                    (case side1 => repeat (first | exact (Kd.C_below HR130_3.out HB.out) | (with_reducible refine Kd.C_alloc ?_ _) | (with_reducible refine Kd.C_drewN ?_ _) | (with_reducible refine Kd.C_drew ?_)))
                                    (case side2 => exact HC130_3.out)
                                    (case side3 => repeat (first | exact (Kd.C_below HR130_7.out HB.out) | (with_reducible refine Kd.C_alloc ?_ _) | (with_reducible refine Kd.C_drewN ?_ _) | (with_reducible refine Kd.C_drew ?_)))
                                    (case side4 => exact HC130_7.out)
                                    (case side5 => repeat (first | exact (Kd.C_below HR131_3.out HB.out) | (with_reducible refine Kd.C_alloc ?_ _) | (with_reducible refine Kd.C_drewN ?_ _) | (with_reducible refine Kd.C_drew ?_)))
                                    (case side6 => exact HC131_3.out)
                                    (case side7 => repeat (first | exact (Kd.C_below HR131_7.out HB.out) | (with_reducible refine Kd.C_alloc ?_ _) | (with_reducible refine Kd.C_drewN ?_ _) | (with_reducible refine Kd.C_drew ?_)))
                                    (case side8 => exact HC131_7.out)
                                    rintro e w75 ⟨rfl, hb⟩
                                    refine ⟨_, rfl, ?_⟩
                                    have n0_ := Aside0.mk (blk_below (g := gb123) (o := .cells #[.int .i64 a0_0, .int .i64 a0_1, .slice (some ad125) l0_2.length c0_2] 24 (0, 0)) (by (with_reducible repeat (first | refine blk_drewN ?_ _ | refine blk_drew ?_ | refine blk_alloc ?_ _)); exact BK123.out) hb)
                                    have n1_ := Aside0.mk (blk_below (g := gb124) (o := .cells #[.int .i64 a1_0, .int .i64 a1_1, .slice (some ad127) l1_2.length c1_2] 24 (0, 0)) (by (with_reducible repeat (first | refine blk_drewN ?_ _ | refine blk_drew ?_ | refine blk_alloc ?_ _)); exact BK124.out) hb)
                                    have n2_ := Aside0.mk (blk_below (g := gb126) (o := .cells #[.int .i64 ((rd_T43 l0_2 x5_2).f0), .slice (some ad130) ((rd_T43 l0_2 x5_2).f1).length c125_1, .slice A125_2 ((rd_T43 l0_2 x5_2).f2).length c125_2] 43 (0, 0)) (by (with_reducible repeat (first | refine blk_drewN ?_ _ | refine blk_drew ?_ | refine blk_alloc ?_ _)); exact BK126.out) hb)
                                    have n3_ := Aside0.mk (blk_below (g := gb128) (o := .cells #[.int .i64 ((rd_T43 l1_2 x5_2).f0), .slice (some ad131) ((rd_T43 l1_2 x5_2).f1).length c127_1, .slice A127_2 ((rd_T43 l1_2 x5_2).f2).length c127_2] 43 (0, 0)) (by (with_reducible repeat (first | refine blk_drewN ?_ _ | refine blk_drew ?_ | refine blk_alloc ?_ _)); exact BK128.out) hb)
                                    have n4_ := Aside0.mk (below_step (by repeat (first | (with_reducible first | exact HB.out | apply below_alloc | apply pw_below_drewN | apply below_drew1 | refine below_set ?_ GE123.out | refine below_set ?_ GE124.out | refine below_set ?_ GE126.out | refine below_set ?_ GE128.out) | exact HB.out)) hb)
                                    clear BK123
                                    clear BK124
                                    clear BK126
                                    clear BK128
                                    clear HB
                                    have BK123 := n0_
                                    have BK124 := n1_
                                    have BK126 := n2_
                                    have BK128 := n3_
                                    have HB := n4_
                                    clear n0_ n1_ n2_ n3_ n4_
                                    (try clear hb)
                                    (try clear hb2)
                                    (try clear hk)
                                    (try clear hi)
                                    refine hK.out _ _ ⟨(blk_cell BK126.out 0).trans rfl, (blk_cell BK126.out 1).trans rfl, (blk_cell BK126.out 2).trans rfl, (blk_cell BK128.out 0).trans rfl, (blk_cell BK128.out 1).trans rfl, (blk_cell BK128.out 2).trans rfl, ((HB.out.cell (World.block_lt_of_cell? w _ hw130_0)).trans hw130_0), ((HB.out.cell (World.block_lt_of_cell? w _ hw130_1)).trans hw130_1), ((HB.out.cell (World.block_lt_of_cell? w _ hw130_2)).trans hw130_2), ((HB.out.cell (World.block_lt_of_cell? w _ hw130_3)).trans hw130_3), ((HB.out.cell (World.block_lt_of_cell? w _ hw130_4)).trans hw130_4), ((HB.out.cell (World.block_lt_of_cell? w _ hw130_5)).trans hw130_5), ((HB.out.cell (World.block_lt_of_cell? w _ hw130_6)).trans hw130_6), ((HB.out.cell (World.block_lt_of_cell? w _ hw130_7)).trans hw130_7), ((HB.out.cell (World.block_lt_of_cell? w _ hw131_0)).trans hw131_0), ((HB.out.cell (World.block_lt_of_cell? w _ hw131_1)).trans hw131_1), ((HB.out.cell (World.block_lt_of_cell? w _ hw131_2)).trans hw131_2), ((HB.out.cell (World.block_lt_of_cell? w _ hw131_3)).trans hw131_3), ((HB.out.cell (World.block_lt_of_cell? w _ hw131_4)).trans hw131_4), ((HB.out.cell (World.block_lt_of_cell? w _ hw131_5)).trans hw131_5), ((HB.out.cell (World.block_lt_of_cell? w _ hw131_6)).trans hw131_6), ((HB.out.cell (World.block_lt_of_cell? w _ hw131_7)).trans hw131_7)⟩ (fun hHeld => ?_)
                                    clear hK K
                                    refine norm_ (a' := ?_) ?_ ?_
                                    rotate_left
                                    · show Act.put _ (some 86) _ = _
                                      simp only [Act.put, List.setIfInBounds_toArray, List.set_cons_zero, List.set_cons_succ, i64_w, i32_w]
                                      rfl
                                    refine pure_ (i := 11) (N := some 87) (v := ?_) (a' := ?_) #[true, true, true, true, true, true, true, true, true, true, true, true] rfl rfl (any_of HT_.out (by kernel_rfl)) (fun _ _ _ h => h) (Or.inl ⟨by rfl, ?_⟩) ?_ ?_
                                    rotate_left
                                    · intro w'
                                      go_simp
                                      with_reducible rfl
                                    rotate_left
                                    · simp only [Act.put, List.setIfInBounds_toArray, List.set_cons_zero, List.set_cons_succ, i64_w, i32_w]
                                      rfl
                                    refine done_ (done_of HT_.out (by kernel_rfl)) ?_
                                    try go_wp2
                                    go_ret
                                    exact ⟨by first | rfl | (simp [errW_none, errW_some] <;> rfl) | (simp [*, errW_none, errW_some] <;> rfl), by repeat (first | (with_reducible first | exact HB.out | apply below_alloc | apply pw_below_drewN | apply below_drew1 | refine below_set ?_ GE123.out | refine below_set ?_ GE124.out | refine below_set ?_ GE126.out | refine below_set ?_ GE128.out) | exact HB.out)⟩
                                · rw [if_neg c61] at H
                                  exact absurd H (by simp)
                              · rw [if_neg c60] at H
                                exact absurd H (by simp)
                            · rw [if_neg c59] at H
                              have c59b0 : decide (x8_4 < (((rd_T43 l0_2 x5_2).f1).length : Int)) = false := decide_eq_false c59
                              clear c59
                              have H' := Aside0.mk H
                              clear H
                              have hnb76 := NB126_123.out
                              have hnc76 := NB123_126.out
                              have hnb77 := NB126_124.out
                              have hnc77 := NB124_126.out
                              have hnb78 := NB126_128.out
                              have hnc78 := NB128_126.out
                              have hcz79_0 : wr.cell? ⟨gb126, 0, none⟩ = some (.int .i64 ((rd_T43 l0_2 x5_2).f0)) := (blk_cell BK126.out 0).trans rfl
                              have hcz79_1 : wr.cell? ⟨gb126, 1, none⟩ = some (.slice A125_1 ((rd_T43 l0_2 x5_2).f1).length c125_1) := (blk_cell BK126.out 1).trans rfl
                              have hcz79_2 : wr.cell? ⟨gb126, 2, none⟩ = some (.slice A125_2 ((rd_T43 l0_2 x5_2).f2).length c125_2) := (blk_cell BK126.out 2).trans rfl
                              have hfz79_0 := blk_frozen BK126.out 0
                              have hfz79_1 := blk_frozen BK126.out 1
                              have hfz79_2 := blk_frozen BK126.out 2
                              go_wp2
                              go_roundg k4
                              case measure => have := HJ2.out; have := HK2.out; have := HJ20.out; have := HK4.out; omega
                              case rel => exact ⟨(wrap64 (x5_2 + 1)), (by first | rfl | (simp; done) | (simp [*]; done)), H', ⟨by have := HJ2.out; have := HK2.out; have := HJ20.out; have := HK4.out; omega⟩, ⟨by (with_reducible repeat (first | refine blk_drewN ?_ _ | refine blk_drew ?_ | refine blk_alloc ?_ _)); exact BK123.out⟩, ⟨by (with_reducible repeat (first | refine blk_drewN ?_ _ | refine blk_drew ?_ | refine blk_alloc ?_ _)); exact BK124.out⟩, ⟨by repeat (first | (with_reducible first | exact HB.out | apply below_alloc | apply pw_below_drewN | apply below_drew1 | refine below_set ?_ GE123.out | refine below_set ?_ GE124.out | refine below_set ?_ GE126.out | refine below_set ?_ GE128.out) | exact HB.out)⟩⟩
                · rw [if_neg c20] at H
                  exact absurd H (by simp)
              · rw [if_neg c19] at H
                exact absurd H (by simp)
            · rw [if_neg c18] at H
              have c18b0 : decide (x5_2 < (l0_2.length : Int)) = false := decide_eq_false c18
              clear c18
              obtain rfl := Option.some.inj H
              have hnb80 := NB123_124.out
              have hnc80 := NB124_123.out
              have hcz81_0 : wr.cell? ⟨gb123, 0, none⟩ = some (.int .i64 a0_0) := (blk_cell BK123.out 0).trans rfl
              have hcz81_1 : wr.cell? ⟨gb123, 1, none⟩ = some (.int .i64 a0_1) := (blk_cell BK123.out 1).trans rfl
              have hcz81_2 : wr.cell? ⟨gb123, 2, none⟩ = some (.slice A0_2 l0_2.length c0_2) := (blk_cell BK123.out 2).trans rfl
              have hfz81_0 := blk_frozen BK123.out 0
              have hfz81_1 := blk_frozen BK123.out 1
              have hfz81_2 := blk_frozen BK123.out 2
              go_wp2
              go_ret
              exact ⟨by first | rfl | (simp [errW_none, errW_some] <;> rfl) | (simp [*, errW_none, errW_some] <;> rfl), by repeat (first | (with_reducible first | exact HB.out | apply below_alloc | apply pw_below_drewN | apply below_drew1 | refine below_set ?_ GE123.out | refine below_set ?_ GE124.out) | exact HB.out)⟩

end Go.Proofs.Ytklknkfoafdgpaa.PLiveKnown
