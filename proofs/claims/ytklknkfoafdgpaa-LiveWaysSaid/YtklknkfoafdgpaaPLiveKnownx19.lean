-- PRINTED BY print.sh 35421559b90ae4d0a3588c463048766b98c2df88dd9212a6774a882060cdf62d: not written by this session
import Derived.Test.YtklknkfoafdgpaaPLiveKnownx0
import Derived.Test.YtklknkfoafdgpaaPLiveKnownx18
namespace Go.Proofs.Ytklknkfoafdgpaa.PLiveKnown
open Go.RowKit Go.Proofs.YtklknkfoafdgpaaW.PrintWords Go.Proofs.YtklknkfoafdgpaaW.PrintLast Go.Proofs.YtklknkfoafdgpaaW.PrintMore
attribute [local go_sem] max2_int min2_int max_two min_two max_three min_three max_four min_four   -- for this text's walks alone
set_option linter.unusedVariables false
set_option linter.unusedSimpArgs false

/-! ### portagelaw24_along: function 45 -/
def portagelaw24_along.l0 : Nat → List (S47) → List Bool → Int → Int → Option (Int)
  | 0, _, _, _, _ => none
  | k + 1, x0, x1, x3, x9 => if x9 < (x0.length : Int) then (if 0 ≤ x9 then (if x9 < (x1.length : Int) then (if rdOf false x1 x9 = true then (portagelaw24_along.l0 k x0 x1 x3 (wrap64 (x9 + 1))) else ((portagelaw24_asks.f k ((rd_T47 x0 x9).f0) ((rd_T47 x0 x9).f1) ((rd_T47 x0 x9).f2) ((rd_T47 x0 x9).f3) ((rd_T47 x0 x9).f4) ((rd_T47 x0 x9).f5) ((rd_T47 x0 x9).f6) ((rd_T47 x0 x9).f7) x3).bind fun t373 => (if t373 = true then (some 1) else (if ((rd_T47 x0 x9).f2) = x3 then (some 2) else (portagelaw24_along.l0 k x0 x1 x3 (wrap64 (x9 + 1))))))) else (none)) else (none)) else (some 0)
def portagelaw24_along.f (k : Nat) (l0 : List (S47)) (l1 : List Bool) (a2 : Int) (a3 : Int) : Option (Int) := portagelaw24_along.l0 k l0 l1 a3 a2
theorem portagelaw24_along.mono_l : ∀ k, (∀ y0 y1 y2 y3, LeO (portagelaw24_along.l0 k y0 y1 y2 y3) (portagelaw24_along.l0 (k + 1) y0 y1 y2 y3))
  | 0 => fun _ _ _ _ r h => by simp [portagelaw24_along.l0] at h
  | k + 1 => by
    have ih0 := portagelaw24_along.mono_l k
    · intro y0 y1 y2 y3
      unfold portagelaw24_along.l0
      repeat' first
      | (with_reducible exact ih0 _ _ _ _)
      | (with_reducible exact portagelaw24_asks.mono _ _ _ _ _ _ _ _ _ _)
      | (with_reducible exact LeO.refl _)
      | (with_reducible exact LeO.none _)
      | (with_reducible refine LeO.ite ?_ ?_)
      | (with_reducible refine LeO.bind ?_ (fun _ => ?_))
      | exact ih0 _ _ _ _
      | exact portagelaw24_asks.mono _ _ _ _ _ _ _ _ _ _
      | exact LeO.none _
      | refine LeO.ite ?_ ?_
      | refine LeO.bind ?_ (fun _ => ?_)
theorem portagelaw24_along.mono : ∀ a0 a1 a2 a3 k, LeO (portagelaw24_along.f k a0 a1 a2 a3) (portagelaw24_along.f (k + 1) a0 a1 a2 a3) := by
  intro a0 a1 a2 a3 k
  have ih0 := portagelaw24_along.mono_l k
  unfold portagelaw24_along.f
  repeat' first
      | (with_reducible exact ih0 _ _ _ _)
      | (with_reducible exact portagelaw24_asks.mono _ _ _ _ _ _ _ _ _ _)
      | (with_reducible exact LeO.refl _)
      | (with_reducible exact LeO.none _)
      | (with_reducible refine LeO.ite ?_ ?_)
      | (with_reducible refine LeO.bind ?_ (fun _ => ?_))
      | exact ih0 _ _ _ _
      | exact portagelaw24_asks.mono _ _ _ _ _ _ _ _ _ _
      | exact LeO.none _
      | refine LeO.ite ?_ ?_
      | refine LeO.bind ?_ (fun _ => ?_)
set_option maxHeartbeats 8000000 in
set_option maxRecDepth 100000 in
theorem portagelaw24_along.calls (k : Nat) (A0 : Option Addr) (c0 : Nat) (l0 : List (S47)) (A1 : Option Addr) (c1 : Nat) (l1 : List Bool) (a2 : Int) (a3 : Int) (r : Int) (w : World) (hr0 : Kd.C k47 w A0 l0.length l0) (hc0 : l0.length ≤ c0) (hr1 : Kd.C Kd.bool w A1 l1.length l1) (hc1 : l1.length ≤ c1) (h : portagelaw24_along.f k l0 l1 a2 a3 = some r) :
    Calls Try.prog 45 #[.slice A0 l0.length c0, .slice A1 l1.length c1, .int .i64 a2, .int .i64 a3] w fun e w' => e = .returned (.int .i64 r) ∧ Below w.heap.size w w' := by
  have hu47 := Try.underlying47
  have HR0 := Aside0.mk hr0
  have HC0 := Aside0.mk hc0
  clear hr0 hc0
  have HR1 := Aside0.mk hr1
  have HC1 := Aside0.mk hc1
  clear hr1 hc1
  have HB := Aside0.mk (Below.refl w.heap.size w)
  have H : (portagelaw24_along.l0 k l0 l1 a3 a2) = some r := h
  clear h
  have H' := Aside0.mk H
  clear H
  go_enter Try.func45, Try.ntmps45
  go_wp2
  go_loopg [9] k (fun kq v9 w' => ∃ (x9_1 : Int), v9 = .int .i64 x9_1 ∧ Aside0 (portagelaw24_along.l0 kq l0 l1 a3 x9_1 = some r) ∧ Aside0 (kq ≤ k) ∧ Aside0 (Below w.heap.size w w'))
  case atStart => exact ⟨(a2), (by first | rfl | (simp; done) | (simp [*]; done)), H', ⟨Nat.le_refl _⟩, ⟨by repeat (first | (with_reducible first | exact HB.out | apply below_alloc | apply pw_below_drewN | apply below_drew1) | exact HB.out)⟩⟩
  case round =>
    clear H'
    try clear c1
    try clear p2
    try clear c4
    obtain ⟨x9_1, rfl, HA, HK1, HB⟩ := hrel
    cases gk with
    | zero => exact absurd HA.out (by simp [portagelaw24_along.l0])
    | succ k1 =>
      have H := HA.out
      clear HA
      simp only [portagelaw24_along.l0] at H
      by_cases c5 : x9_1 < (l0.length : Int)
      · rw [if_pos c5] at H
        have c5b0 : decide (x9_1 < (l0.length : Int)) = true := decide_eq_true c5
        clear c5
        by_cases c6 : 0 ≤ x9_1
        · rw [if_pos c6] at H
          have c6b0 : decide (0 ≤ x9_1) = true := decide_eq_true c6
          clear c6
          by_cases c7 : x9_1 < (l1.length : Int)
          · rw [if_pos c7] at H
            have c7b0 : decide (x9_1 < (l1.length : Int)) = true := decide_eq_true c7
            clear c7
            obtain ⟨bq8, hbq8⟩ : ∃ b_ : Bool, b_ = (rdOf false l1 x9_1) := ⟨_, rfl⟩
            replace H : (if bq8 = true then (portagelaw24_along.l0 k1 l0 l1 a3 (wrap64 (x9_1 + 1))) else ((portagelaw24_asks.f k1 ((rd_T47 l0 x9_1).f0) ((rd_T47 l0 x9_1).f1) ((rd_T47 l0 x9_1).f2) ((rd_T47 l0 x9_1).f3) ((rd_T47 l0 x9_1).f4) ((rd_T47 l0 x9_1).f5) ((rd_T47 l0 x9_1).f6) ((rd_T47 l0 x9_1).f7) a3).bind fun t373 => (if t373 = true then (some 1) else (if ((rd_T47 l0 x9_1).f2) = a3 then (some 2) else (portagelaw24_along.l0 k1 l0 l1 a3 (wrap64 (x9_1 + 1))))))) = some r := by rw [← hbq8] at H; exact H
            have Nbq8 := Aside0.mk hbq8
            clear hbq8
            by_cases c9 : bq8 = true
            · subst c9
              have H1 : (portagelaw24_along.l0 k1 l0 l1 a3 (wrap64 (x9_1 + 1))) = some r := by rw [if_pos rfl] at H; exact H
              clear H
              have H := H1
              clear H1
              have H' := Aside0.mk H
              clear H
              have p371 : 0 ≤ (x9_1 : Int) := of_decide_eq_true (by first | (with_reducible assumption) | assumption)
              have q371 : x9_1 < (l1.length : Int) := of_decide_eq_true (by first | (with_reducible assumption) | assumption)
              obtain ⟨ad371, e371, hx371_0⟩ := Kd.at_bool HR1.out x9_1 p371 q371
              (try rw [← Nbq8.out] at hx371_0)
              cases e371
              replace hx371_0 := (HB.out.cell (World.block_lt_of_cell? w _ hx371_0)).trans hx371_0
              replace p371 := eq_true p371
              replace q371 := eq_true q371
              go_wp2
              go_roundg k1
              case measure => have := HK1.out; omega
              case rel => exact ⟨(wrap64 (x9_1 + 1)), (by first | rfl | (simp; done) | (simp [*]; done)), H', ⟨by have := HK1.out; omega⟩, ⟨by repeat (first | (with_reducible first | exact HB.out | apply below_alloc | apply pw_below_drewN | apply below_drew1) | exact HB.out)⟩⟩
            · replace c9 := Bool.eq_false_iff.mpr c9
              subst c9
              have H1 : ((portagelaw24_asks.f k1 ((rd_T47 l0 x9_1).f0) ((rd_T47 l0 x9_1).f1) ((rd_T47 l0 x9_1).f2) ((rd_T47 l0 x9_1).f3) ((rd_T47 l0 x9_1).f4) ((rd_T47 l0 x9_1).f5) ((rd_T47 l0 x9_1).f6) ((rd_T47 l0 x9_1).f7) a3).bind fun t373 => (if t373 = true then (some 1) else (if ((rd_T47 l0 x9_1).f2) = a3 then (some 2) else (portagelaw24_along.l0 k1 l0 l1 a3 (wrap64 (x9_1 + 1)))))) = some r := by rw [if_neg (show ¬ (false = true) by decide)] at H; exact H
              clear H
              have H := H1
              clear H1
              replace H := Option.bind_eq_some_iff.mp H
              obtain ⟨t373, A100, H⟩ := H
              replace H : (if t373 = true then (some 1) else (if ((rd_T47 l0 x9_1).f2) = a3 then (some 2) else (portagelaw24_along.l0 k1 l0 l1 a3 (wrap64 (x9_1 + 1))))) = some r := H
              have A10 := Aside0.mk A100
              clear A100
              by_cases c11 : t373 = true
              · subst c11
                have H1 : (some 1) = some r := by rw [if_pos rfl] at H; exact H
                clear H
                have H := H1
                clear H1
                obtain rfl := Option.some.inj H
                have p371 : 0 ≤ (x9_1 : Int) := of_decide_eq_true (by first | (with_reducible assumption) | assumption)
                have q371 : x9_1 < (l1.length : Int) := of_decide_eq_true (by first | (with_reducible assumption) | assumption)
                obtain ⟨ad371, e371, hx371_0⟩ := Kd.at_bool HR1.out x9_1 p371 q371
                (try rw [← Nbq8.out] at hx371_0)
                cases e371
                replace hx371_0 := (HB.out.cell (World.block_lt_of_cell? w _ hx371_0)).trans hx371_0
                replace p371 := eq_true p371
                replace q371 := eq_true q371
                have p372 : 0 ≤ (x9_1 : Int) := of_decide_eq_true (by first | (with_reducible assumption) | assumption)
                have q372 : x9_1 < (l0.length : Int) := of_decide_eq_true (by first | (with_reducible assumption) | assumption)
                obtain ⟨ad372, A372_3, c372_3, A372_7, c372_7, e372, hx372_0, hx372_1, hx372_2, hx372_3, hx372_4, hx372_5, hx372_6, hx372_7, hl372_3, hi372_3, hl372_7, hi372_7⟩ := at_T47 HR0.out x9_1 p372 q372
                cases e372
                replace hx372_0 := (HB.out.cell (World.block_lt_of_cell? w _ hx372_0)).trans hx372_0
                replace hx372_1 := (HB.out.cell (World.block_lt_of_cell? w _ hx372_1)).trans hx372_1
                replace hx372_2 := (HB.out.cell (World.block_lt_of_cell? w _ hx372_2)).trans hx372_2
                replace hx372_3 := (HB.out.cell (World.block_lt_of_cell? w _ hx372_3)).trans hx372_3
                replace hx372_4 := (HB.out.cell (World.block_lt_of_cell? w _ hx372_4)).trans hx372_4
                replace hx372_5 := (HB.out.cell (World.block_lt_of_cell? w _ hx372_5)).trans hx372_5
                replace hx372_6 := (HB.out.cell (World.block_lt_of_cell? w _ hx372_6)).trans hx372_6
                replace hx372_7 := (HB.out.cell (World.block_lt_of_cell? w _ hx372_7)).trans hx372_7
                have HR372_3 := Aside0.mk hi372_3
                have HC372_3 := Aside0.mk hl372_3
                clear hi372_3 hl372_3
                have HR372_7 := Aside0.mk hi372_7
                have HC372_7 := Aside0.mk hl372_7
                clear hi372_7 hl372_7
                replace p372 := eq_true p372
                replace q372 := eq_true q372
                go_wp2_with (first | ((with_reducible refine gate_callee (f := 63) rfl ?_); refine goesL_ (some 26) rfl rfl Try.func63 (by kernel_rfl) rfl #[.agg #[.int .i64 ((rd_T47 l0 x9_1).f0), .int .i64 ((rd_T47 l0 x9_1).f1), .int .i64 ((rd_T47 l0 x9_1).f2), .slice A372_3 ((rd_T47 l0 x9_1).f3).length c372_3, .int .i64 ((rd_T47 l0 x9_1).f4), .int .i64 ((rd_T47 l0 x9_1).f5), .int .i64 ((rd_T47 l0 x9_1).f6), .slice A372_7 ((rd_T47 l0 x9_1).f7).length c372_7], .int .i64 a3] rfl (by (try simp only [List.map_toArray, List.map_cons, List.map_nil]); first | done | rfl | (simp only [List.length_drop, List.length_take]; rfl)) ?_; (with_reducible refine (portagelaw24_asks.calls k1 ((rd_T47 l0 x9_1).f0) ((rd_T47 l0 x9_1).f1) ((rd_T47 l0 x9_1).f2) _ _ ((rd_T47 l0 x9_1).f3) ((rd_T47 l0 x9_1).f4) ((rd_T47 l0 x9_1).f5) ((rd_T47 l0 x9_1).f6) _ _ ((rd_T47 l0 x9_1).f7) a3 true _ ?side1 ?side2 ?side3 ?side4 A10.out).mono ?_); (case side1 => repeat (first | exact (Kd.C_below HR372_3.out HB.out) | (with_reducible refine Kd.C_alloc ?_ _) | (with_reducible refine Kd.C_drewN ?_ _) | (with_reducible refine Kd.C_drew ?_))); (case side2 => exact HC372_3.out); (case side3 => repeat (first | exact (Kd.C_below HR372_7.out HB.out) | (with_reducible refine Kd.C_alloc ?_ _) | (with_reducible refine Kd.C_drewN ?_ _) | (with_reducible refine Kd.C_drew ?_))); (case side4 => exact HC372_7.out); rintro e w12 ⟨rfl, hb⟩; refine ⟨_, rfl, ?_⟩; have n0_ := Aside0.mk (below_step (by repeat (first | (with_reducible first | exact HB.out | apply below_alloc | apply pw_below_drewN | apply below_drew1) | exact HB.out)) hb); clear HB; have HB := n0_; clear n0_; (try clear hb); (try clear hb2); (try clear hk); (try clear hi)))
                go_ret
                exact ⟨by first | rfl | (simp [errW_none, errW_some] <;> rfl) | (simp [*, errW_none, errW_some] <;> rfl), by repeat (first | (with_reducible first | exact HB.out | apply below_alloc | apply pw_below_drewN | apply below_drew1) | exact HB.out)⟩
              · replace c11 := Bool.eq_false_iff.mpr c11
                subst c11
                have H1 : (if ((rd_T47 l0 x9_1).f2) = a3 then (some 2) else (portagelaw24_along.l0 k1 l0 l1 a3 (wrap64 (x9_1 + 1)))) = some r := by rw [if_neg (show ¬ (false = true) by decide)] at H; exact H
                clear H
                have H := H1
                clear H1
                by_cases c13 : ((rd_T47 l0 x9_1).f2) = a3
                · rw [if_pos c13] at H
                  have c13b0 : (((rd_T47 l0 x9_1).f2) == a3) = true := beq_iff_eq.mpr c13
                  have c13b1 : (((rd_T47 l0 x9_1).f2) != a3) = false := bne_eq_false_iff_eq.mpr c13
                  clear c13
                  obtain rfl := Option.some.inj H
                  have p371 : 0 ≤ (x9_1 : Int) := of_decide_eq_true (by first | (with_reducible assumption) | assumption)
                  have q371 : x9_1 < (l1.length : Int) := of_decide_eq_true (by first | (with_reducible assumption) | assumption)
                  obtain ⟨ad371, e371, hx371_0⟩ := Kd.at_bool HR1.out x9_1 p371 q371
                  (try rw [← Nbq8.out] at hx371_0)
                  cases e371
                  replace hx371_0 := (HB.out.cell (World.block_lt_of_cell? w _ hx371_0)).trans hx371_0
                  replace p371 := eq_true p371
                  replace q371 := eq_true q371
                  have p372 : 0 ≤ (x9_1 : Int) := of_decide_eq_true (by first | (with_reducible assumption) | assumption)
                  have q372 : x9_1 < (l0.length : Int) := of_decide_eq_true (by first | (with_reducible assumption) | assumption)
                  obtain ⟨ad372, A372_3, c372_3, A372_7, c372_7, e372, hx372_0, hx372_1, hx372_2, hx372_3, hx372_4, hx372_5, hx372_6, hx372_7, hl372_3, hi372_3, hl372_7, hi372_7⟩ := at_T47 HR0.out x9_1 p372 q372
                  cases e372
                  replace hx372_0 := (HB.out.cell (World.block_lt_of_cell? w _ hx372_0)).trans hx372_0
                  replace hx372_1 := (HB.out.cell (World.block_lt_of_cell? w _ hx372_1)).trans hx372_1
                  replace hx372_2 := (HB.out.cell (World.block_lt_of_cell? w _ hx372_2)).trans hx372_2
                  replace hx372_3 := (HB.out.cell (World.block_lt_of_cell? w _ hx372_3)).trans hx372_3
                  replace hx372_4 := (HB.out.cell (World.block_lt_of_cell? w _ hx372_4)).trans hx372_4
                  replace hx372_5 := (HB.out.cell (World.block_lt_of_cell? w _ hx372_5)).trans hx372_5
                  replace hx372_6 := (HB.out.cell (World.block_lt_of_cell? w _ hx372_6)).trans hx372_6
                  replace hx372_7 := (HB.out.cell (World.block_lt_of_cell? w _ hx372_7)).trans hx372_7
                  have HR372_3 := Aside0.mk hi372_3
                  have HC372_3 := Aside0.mk hl372_3
                  clear hi372_3 hl372_3
                  have HR372_7 := Aside0.mk hi372_7
                  have HC372_7 := Aside0.mk hl372_7
                  clear hi372_7 hl372_7
                  replace p372 := eq_true p372
                  replace q372 := eq_true q372
                  go_wp2_with (first | ((with_reducible refine gate_callee (f := 63) rfl ?_); refine goesL_ (some 26) rfl rfl Try.func63 (by kernel_rfl) rfl #[.agg #[.int .i64 ((rd_T47 l0 x9_1).f0), .int .i64 ((rd_T47 l0 x9_1).f1), .int .i64 ((rd_T47 l0 x9_1).f2), .slice A372_3 ((rd_T47 l0 x9_1).f3).length c372_3, .int .i64 ((rd_T47 l0 x9_1).f4), .int .i64 ((rd_T47 l0 x9_1).f5), .int .i64 ((rd_T47 l0 x9_1).f6), .slice A372_7 ((rd_T47 l0 x9_1).f7).length c372_7], .int .i64 a3] rfl (by (try simp only [List.map_toArray, List.map_cons, List.map_nil]); first | done | rfl | (simp only [List.length_drop, List.length_take]; rfl)) ?_; (with_reducible refine (portagelaw24_asks.calls k1 ((rd_T47 l0 x9_1).f0) ((rd_T47 l0 x9_1).f1) ((rd_T47 l0 x9_1).f2) _ _ ((rd_T47 l0 x9_1).f3) ((rd_T47 l0 x9_1).f4) ((rd_T47 l0 x9_1).f5) ((rd_T47 l0 x9_1).f6) _ _ ((rd_T47 l0 x9_1).f7) a3 false _ ?side1 ?side2 ?side3 ?side4 A10.out).mono ?_); (case side1 => repeat (first | exact (Kd.C_below HR372_3.out HB.out) | (with_reducible refine Kd.C_alloc ?_ _) | (with_reducible refine Kd.C_drewN ?_ _) | (with_reducible refine Kd.C_drew ?_))); (case side2 => exact HC372_3.out); (case side3 => repeat (first | exact (Kd.C_below HR372_7.out HB.out) | (with_reducible refine Kd.C_alloc ?_ _) | (with_reducible refine Kd.C_drewN ?_ _) | (with_reducible refine Kd.C_drew ?_))); (case side4 => exact HC372_7.out); rintro e w14 ⟨rfl, hb⟩; refine ⟨_, rfl, ?_⟩; have n0_ := Aside0.mk (below_step (by repeat (first | (with_reducible first | exact HB.out | apply below_alloc | apply pw_below_drewN | apply below_drew1) | exact HB.out)) hb); clear HB; have HB := n0_; clear n0_; (try clear hb); (try clear hb2); (try clear hk); (try clear hi); have p374 : 0 ≤ (x9_1 : Int) := of_decide_eq_true (by first | (with_reducible assumption) | assumption); have q374 : x9_1 < (l0.length : Int) := of_decide_eq_true (by first | (with_reducible assumption) | assumption); obtain ⟨ad374, A374_3, c374_3, A374_7, c374_7, e374, hx374_0, hx374_1, hx374_2, hx374_3, hx374_4, hx374_5, hx374_6, hx374_7, hl374_3, hi374_3, hl374_7, hi374_7⟩ := at_T47 HR0.out x9_1 p374 q374; obtain rfl : ad372 = ad374 := (by injection e374); replace hx374_0 := (HB.out.cell (World.block_lt_of_cell? w _ hx374_0)).trans hx374_0; replace hx374_1 := (HB.out.cell (World.block_lt_of_cell? w _ hx374_1)).trans hx374_1; replace hx374_2 := (HB.out.cell (World.block_lt_of_cell? w _ hx374_2)).trans hx374_2; replace hx374_3 := (HB.out.cell (World.block_lt_of_cell? w _ hx374_3)).trans hx374_3; replace hx374_4 := (HB.out.cell (World.block_lt_of_cell? w _ hx374_4)).trans hx374_4; replace hx374_5 := (HB.out.cell (World.block_lt_of_cell? w _ hx374_5)).trans hx374_5; replace hx374_6 := (HB.out.cell (World.block_lt_of_cell? w _ hx374_6)).trans hx374_6; replace hx374_7 := (HB.out.cell (World.block_lt_of_cell? w _ hx374_7)).trans hx374_7; have HR374_3 := Aside0.mk hi374_3; have HC374_3 := Aside0.mk hl374_3; clear hi374_3 hl374_3; have HR374_7 := Aside0.mk hi374_7; have HC374_7 := Aside0.mk hl374_7; clear hi374_7 hl374_7; replace p374 := eq_true p374; replace q374 := eq_true q374))
                  go_ret
                  exact ⟨by first | rfl | (simp [errW_none, errW_some] <;> rfl) | (simp [*, errW_none, errW_some] <;> rfl), by repeat (first | (with_reducible first | exact HB.out | apply below_alloc | apply pw_below_drewN | apply below_drew1) | exact HB.out)⟩
                · rw [if_neg c13] at H
                  have c13b0 : (((rd_T47 l0 x9_1).f2) == a3) = false := beq_eq_false_iff_ne.mpr c13
                  have c13b1 : (((rd_T47 l0 x9_1).f2) != a3) = true := bne_iff_ne.mpr c13
                  have H' := Aside0.mk H
                  clear H
                  have p371 : 0 ≤ (x9_1 : Int) := of_decide_eq_true (by first | (with_reducible assumption) | assumption)
                  have q371 : x9_1 < (l1.length : Int) := of_decide_eq_true (by first | (with_reducible assumption) | assumption)
                  obtain ⟨ad371, e371, hx371_0⟩ := Kd.at_bool HR1.out x9_1 p371 q371
                  (try rw [← Nbq8.out] at hx371_0)
                  cases e371
                  replace hx371_0 := (HB.out.cell (World.block_lt_of_cell? w _ hx371_0)).trans hx371_0
                  replace p371 := eq_true p371
                  replace q371 := eq_true q371
                  have p372 : 0 ≤ (x9_1 : Int) := of_decide_eq_true (by first | (with_reducible assumption) | assumption)
                  have q372 : x9_1 < (l0.length : Int) := of_decide_eq_true (by first | (with_reducible assumption) | assumption)
                  obtain ⟨ad372, A372_3, c372_3, A372_7, c372_7, e372, hx372_0, hx372_1, hx372_2, hx372_3, hx372_4, hx372_5, hx372_6, hx372_7, hl372_3, hi372_3, hl372_7, hi372_7⟩ := at_T47 HR0.out x9_1 p372 q372
                  cases e372
                  replace hx372_0 := (HB.out.cell (World.block_lt_of_cell? w _ hx372_0)).trans hx372_0
                  replace hx372_1 := (HB.out.cell (World.block_lt_of_cell? w _ hx372_1)).trans hx372_1
                  replace hx372_2 := (HB.out.cell (World.block_lt_of_cell? w _ hx372_2)).trans hx372_2
                  replace hx372_3 := (HB.out.cell (World.block_lt_of_cell? w _ hx372_3)).trans hx372_3
                  replace hx372_4 := (HB.out.cell (World.block_lt_of_cell? w _ hx372_4)).trans hx372_4
                  replace hx372_5 := (HB.out.cell (World.block_lt_of_cell? w _ hx372_5)).trans hx372_5
                  replace hx372_6 := (HB.out.cell (World.block_lt_of_cell? w _ hx372_6)).trans hx372_6
                  replace hx372_7 := (HB.out.cell (World.block_lt_of_cell? w _ hx372_7)).trans hx372_7
                  have HR372_3 := Aside0.mk hi372_3
                  have HC372_3 := Aside0.mk hl372_3
                  clear hi372_3 hl372_3
                  have HR372_7 := Aside0.mk hi372_7
                  have HC372_7 := Aside0.mk hl372_7
                  clear hi372_7 hl372_7
                  replace p372 := eq_true p372
                  replace q372 := eq_true q372
                  go_wp2_with (first | ((with_reducible refine gate_callee (f := 63) rfl ?_); refine goesL_ (some 26) rfl rfl Try.func63 (by kernel_rfl) rfl #[.agg #[.int .i64 ((rd_T47 l0 x9_1).f0), .int .i64 ((rd_T47 l0 x9_1).f1), .int .i64 ((rd_T47 l0 x9_1).f2), .slice A372_3 ((rd_T47 l0 x9_1).f3).length c372_3, .int .i64 ((rd_T47 l0 x9_1).f4), .int .i64 ((rd_T47 l0 x9_1).f5), .int .i64 ((rd_T47 l0 x9_1).f6), .slice A372_7 ((rd_T47 l0 x9_1).f7).length c372_7], .int .i64 a3] rfl (by (try simp only [List.map_toArray, List.map_cons, List.map_nil]); first | done | rfl | (simp only [List.length_drop, List.length_take]; rfl)) ?_; (with_reducible refine (portagelaw24_asks.calls k1 ((rd_T47 l0 x9_1).f0) ((rd_T47 l0 x9_1).f1) ((rd_T47 l0 x9_1).f2) _ _ ((rd_T47 l0 x9_1).f3) ((rd_T47 l0 x9_1).f4) ((rd_T47 l0 x9_1).f5) ((rd_T47 l0 x9_1).f6) _ _ ((rd_T47 l0 x9_1).f7) a3 false _ ?side1 ?side2 ?side3 ?side4 A10.out).mono ?_); (case side1 => repeat (first | exact (Kd.C_below HR372_3.out HB.out) | (with_reducible refine Kd.C_alloc ?_ _) | (with_reducible refine Kd.C_drewN ?_ _) | (with_reducible refine Kd.C_drew ?_))); (case side2 => exact HC372_3.out); (case side3 => repeat (first | exact (Kd.C_below HR372_7.out HB.out) | (with_reducible refine Kd.C_alloc ?_ _) | (with_reducible refine Kd.C_drewN ?_ _) | (with_reducible refine Kd.C_drew ?_))); (case side4 => exact HC372_7.out); rintro e w15 ⟨rfl, hb⟩; refine ⟨_, rfl, ?_⟩; have n0_ := Aside0.mk (below_step (by repeat (first | (with_reducible first | exact HB.out | apply below_alloc | apply pw_below_drewN | apply below_drew1) | exact HB.out)) hb); clear HB; have HB := n0_; clear n0_; (try clear hb); (try clear hb2); (try clear hk); (try clear hi); have p374 : 0 ≤ (x9_1 : Int) := of_decide_eq_true (by first | (with_reducible assumption) | assumption); have q374 : x9_1 < (l0.length : Int) := of_decide_eq_true (by first | (with_reducible assumption) | assumption); obtain ⟨ad374, A374_3, c374_3, A374_7, c374_7, e374, hx374_0, hx374_1, hx374_2, hx374_3, hx374_4, hx374_5, hx374_6, hx374_7, hl374_3, hi374_3, hl374_7, hi374_7⟩ := at_T47 HR0.out x9_1 p374 q374; obtain rfl : ad372 = ad374 := (by injection e374); replace hx374_0 := (HB.out.cell (World.block_lt_of_cell? w _ hx374_0)).trans hx374_0; replace hx374_1 := (HB.out.cell (World.block_lt_of_cell? w _ hx374_1)).trans hx374_1; replace hx374_2 := (HB.out.cell (World.block_lt_of_cell? w _ hx374_2)).trans hx374_2; replace hx374_3 := (HB.out.cell (World.block_lt_of_cell? w _ hx374_3)).trans hx374_3; replace hx374_4 := (HB.out.cell (World.block_lt_of_cell? w _ hx374_4)).trans hx374_4; replace hx374_5 := (HB.out.cell (World.block_lt_of_cell? w _ hx374_5)).trans hx374_5; replace hx374_6 := (HB.out.cell (World.block_lt_of_cell? w _ hx374_6)).trans hx374_6; replace hx374_7 := (HB.out.cell (World.block_lt_of_cell? w _ hx374_7)).trans hx374_7; have HR374_3 := Aside0.mk hi374_3; have HC374_3 := Aside0.mk hl374_3; clear hi374_3 hl374_3; have HR374_7 := Aside0.mk hi374_7; have HC374_7 := Aside0.mk hl374_7; clear hi374_7 hl374_7; replace p374 := eq_true p374; replace q374 := eq_true q374))
                  go_roundg k1
                  case measure => have := HK1.out; omega
                  case rel => exact ⟨(wrap64 (x9_1 + 1)), (by first | rfl | (simp; done) | (simp [*]; done)), H', ⟨by have := HK1.out; omega⟩, ⟨by repeat (first | (with_reducible first | exact HB.out | apply below_alloc | apply pw_below_drewN | apply below_drew1) | exact HB.out)⟩⟩
          · rw [if_neg c7] at H
            exact absurd H (by simp)
        · rw [if_neg c6] at H
          exact absurd H (by simp)
      · rw [if_neg c5] at H
        have c5b0 : decide (x9_1 < (l0.length : Int)) = false := decide_eq_false c5
        clear c5
        obtain rfl := Option.some.inj H
        go_wp2
        go_ret
        exact ⟨by first | rfl | (simp [errW_none, errW_some] <;> rfl) | (simp [*, errW_none, errW_some] <;> rfl), by repeat (first | (with_reducible first | exact HB.out | apply below_alloc | apply pw_below_drewN | apply below_drew1) | exact HB.out)⟩

end Go.Proofs.Ytklknkfoafdgpaa.PLiveKnown
