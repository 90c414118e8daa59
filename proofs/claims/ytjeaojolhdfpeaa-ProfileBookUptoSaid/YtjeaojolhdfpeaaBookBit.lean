/- OUT OF THE TEXT PRINTED BY print.sh 35421559b90ae4d0a3588c463048766b98c2df88dd9212a6774a882060cdf62d: not written by this session (profile_bit alone) -/
import Derived.Test.YtjeaojolhdfpeaaPProfileBookx0
import Derived.Test.YtjeaojolhdfpeaaPProfileBookx2
namespace Go.Proofs.Ytjeaojolhdfpeaa.PProfileBook
open Go.RowKit Go.Proofs.YtjeaojolhdfpeaaW.PrintWords Go.Proofs.YtjeaojolhdfpeaaW.PrintLast Go.Proofs.YtjeaojolhdfpeaaW.PrintMore
attribute [local go_sem] max2_int min2_int max_two min_two max_three min_three max_four min_four   -- for this text's walks alone
set_option linter.unusedVariables false
set_option linter.unusedSimpArgs false

attribute [local go_sem high] eqA137
/-! ### profile_bit: function 111 -/
def profile_bit.f (l0 : List (S137)) (a1 : Int) : Option (Int) := if (l0.length : Int) < a1 then (some 0) else (if 0 ≤ (wrap64 ((l0.length : Int) - a1)) then (if (wrap64 ((l0.length : Int) - a1)) < (l0.length : Int) then (if ((rd_T137 l0 (wrap64 ((l0.length : Int) - a1))).f0) ≥ 0 then (if ((rd_T137 l0 (wrap64 ((l0.length : Int) - a1))).f0) ≤ 9 then (if 0 ≤ ((rd_T137 l0 (wrap64 ((l0.length : Int) - a1))).f0) then (some (shl .u16 1 ((rd_T137 l0 (wrap64 ((l0.length : Int) - a1))).f0))) else (none)) else (some 0)) else (some 0)) else (none)) else (none))
set_option maxHeartbeats 8000000 in
set_option maxRecDepth 100000 in
theorem profile_bit.calls (A0 : Option Addr) (c0 : Nat) (l0 : List (S137)) (a1 : Int) (r : Int) (w : World) (hr0 : Kd.C k137 w A0 l0.length l0) (hc0 : l0.length ≤ c0) (h : profile_bit.f l0 a1 = some r) :
    Calls Try.prog 111 #[.slice A0 l0.length c0, .int .i64 a1] w fun e w' => e = .returned (.int .u16 r) ∧ Drawn0 w w' := by
  have HR0 := Aside0.mk hr0
  have HC0 := Aside0.mk hc0
  clear hr0 hc0
  have H : (if (l0.length : Int) < a1 then (some 0) else (if 0 ≤ (wrap64 ((l0.length : Int) - a1)) then (if (wrap64 ((l0.length : Int) - a1)) < (l0.length : Int) then (if ((rd_T137 l0 (wrap64 ((l0.length : Int) - a1))).f0) ≥ 0 then (if ((rd_T137 l0 (wrap64 ((l0.length : Int) - a1))).f0) ≤ 9 then (if 0 ≤ ((rd_T137 l0 (wrap64 ((l0.length : Int) - a1))).f0) then (some (shl .u16 1 ((rd_T137 l0 (wrap64 ((l0.length : Int) - a1))).f0))) else (none)) else (some 0)) else (some 0)) else (none)) else (none))) = some r := h
  clear h
  by_cases c3 : (l0.length : Int) < a1
  · rw [if_pos c3] at H
    have c3b0 : decide ((l0.length : Int) < a1) = true := decide_eq_true c3
    clear c3
    obtain rfl := Option.some.inj H
    go_enter Try.func111, Try.ntmps111
    go_wp2
    go_ret
    exact ⟨by first | rfl | (simp; done) | (simp [*]; done), by repeat (first | exact Drawn0.refl _ | apply Drawn0.step)⟩
  · rw [if_neg c3] at H
    have c3b0 : decide ((l0.length : Int) < a1) = false := decide_eq_false c3
    clear c3
    obtain ⟨ji4, hji4⟩ : ∃ j_ : Int, (wrap64 ((l0.length : Int) - a1)) = j_ := ⟨_, rfl⟩
    replace H : (if 0 ≤ (ji4) then (if (ji4) < (l0.length : Int) then (if ((rd_T137 l0 (ji4)).f0) ≥ 0 then (if ((rd_T137 l0 (ji4)).f0) ≤ 9 then (if 0 ≤ ((rd_T137 l0 (ji4)).f0) then (some (shl .u16 1 ((rd_T137 l0 (ji4)).f0))) else (none)) else (some 0)) else (some 0)) else (none)) else (none)) = some r := by first | (rw [hji4] at H; exact H) | (simp only [hji4] at H ⊢; exact H)
    have hji4w : (IntKind.i64.wrap ((l0.length : Int) - a1)) = ji4 := (i64_w _).trans hji4
    by_cases c5 : 0 ≤ (ji4)
    · rw [if_pos c5] at H
      have c5b0 : decide (0 ≤ (ji4)) = true := decide_eq_true c5
      clear c5
      by_cases c6 : (ji4) < (l0.length : Int)
      · rw [if_pos c6] at H
        have c6b0 : decide ((ji4) < (l0.length : Int)) = true := decide_eq_true c6
        clear c6
        by_cases c7 : ((rd_T137 l0 (ji4)).f0) ≥ 0
        · rw [if_pos c7] at H
          have c7b0 : decide (0 ≤ ((rd_T137 l0 (ji4)).f0)) = true := decide_eq_true c7
          clear c7
          by_cases c8 : ((rd_T137 l0 (ji4)).f0) ≤ 9
          · rw [if_pos c8] at H
            have c8b0 : decide (((rd_T137 l0 (ji4)).f0) ≤ 9) = true := decide_eq_true c8
            clear c8
            by_cases c9 : 0 ≤ ((rd_T137 l0 (ji4)).f0)
            · rw [if_pos c9] at H
              have c9b0 := eq_true c9
              have c9b1 : decide (0 ≤ ((rd_T137 l0 (ji4)).f0)) = true := decide_eq_true c9
              clear c9
              obtain ⟨ji10, hji10⟩ : ∃ j_ : Int, (shl .u16 1 ((rd_T137 l0 (ji4)).f0)) = j_ := ⟨_, rfl⟩
              replace H : (some ji10) = some r := by first | (rw [hji10] at H; exact H) | (simp only [hji10] at H ⊢; exact H)
              have hji10_ : (IntKind.u16.wrap (1 * 2 ^ min ((rd_T137 l0 (ji4)).f0).toNat 16)) = ji10 := hji10
              have hji10z : ((rd_T137 l0 (ji4)).f0) ≤ 16 → (IntKind.u16.wrap (1 * 2 ^ ((rd_T137 l0 (ji4)).f0).toNat)) = ji10 := shl_small hji10
              have hji10u : (IntKind.u16.wrap (2 ^ min ((rd_T137 l0 (ji4)).f0).toNat 16)) = ji10 := by have h_ := hji10_; rw [Int.one_mul] at h_; exact h_
              have hji10v : ((rd_T137 l0 (ji4)).f0) ≤ 16 → (IntKind.u16.wrap (2 ^ ((rd_T137 l0 (ji4)).f0).toNat)) = ji10 := fun hle_ => by have h_ := hji10z hle_; rw [Int.one_mul] at h_; exact h_
              obtain rfl := Option.some.inj H
              have p214 : 0 ≤ ((ji4) : Int) := of_decide_eq_true (by first | (with_reducible assumption) | assumption)
              have q214 : (ji4) < (l0.length : Int) := of_decide_eq_true (by first | (with_reducible assumption) | assumption)
              obtain ⟨ad214, e214, hx214_0, hx214_1⟩ := at_T137 HR0.out (ji4) p214 q214
              cases e214
              replace p214 := eq_true p214
              replace q214 := eq_true q214
              go_enter Try.func111, Try.ntmps111
              go_wp2
              go_ret
              exact ⟨by first | rfl | (simp; done) | (simp only [← hji4, ← hji10] <;> (first | rfl | simp)) | (simp [*]; done), by repeat (first | exact Drawn0.refl _ | apply Drawn0.step)⟩
            · rw [if_neg c9] at H
              exact absurd H (by simp)
          · rw [if_neg c8] at H
            have c8b0 : decide (((rd_T137 l0 (ji4)).f0) ≤ 9) = false := decide_eq_false c8
            clear c8
            obtain rfl := Option.some.inj H
            have p214 : 0 ≤ ((ji4) : Int) := of_decide_eq_true (by first | (with_reducible assumption) | assumption)
            have q214 : (ji4) < (l0.length : Int) := of_decide_eq_true (by first | (with_reducible assumption) | assumption)
            obtain ⟨ad214, e214, hx214_0, hx214_1⟩ := at_T137 HR0.out (ji4) p214 q214
            cases e214
            replace p214 := eq_true p214
            replace q214 := eq_true q214
            go_enter Try.func111, Try.ntmps111
            go_wp2
            go_ret
            exact ⟨by first | rfl | (simp; done) | (simp only [← hji4] <;> (first | rfl | simp)) | (simp [*]; done), by repeat (first | exact Drawn0.refl _ | apply Drawn0.step)⟩
        · rw [if_neg c7] at H
          have c7b0 : decide (0 ≤ ((rd_T137 l0 (ji4)).f0)) = false := decide_eq_false c7
          clear c7
          obtain rfl := Option.some.inj H
          have p214 : 0 ≤ ((ji4) : Int) := of_decide_eq_true (by first | (with_reducible assumption) | assumption)
          have q214 : (ji4) < (l0.length : Int) := of_decide_eq_true (by first | (with_reducible assumption) | assumption)
          obtain ⟨ad214, e214, hx214_0, hx214_1⟩ := at_T137 HR0.out (ji4) p214 q214
          cases e214
          replace p214 := eq_true p214
          replace q214 := eq_true q214
          go_enter Try.func111, Try.ntmps111
          go_wp2
          go_ret
          exact ⟨by first | rfl | (simp; done) | (simp only [← hji4] <;> (first | rfl | simp)) | (simp [*]; done), by repeat (first | exact Drawn0.refl _ | apply Drawn0.step)⟩
      · rw [if_neg c6] at H
        exact absurd H (by simp)
    · rw [if_neg c5] at H
      exact absurd H (by simp)

end Go.Proofs.Ytjeaojolhdfpeaa.PProfileBook
