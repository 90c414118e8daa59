/- kept says true of a profile that is as lent made it. -/
import Derived.Test.YtjeaojolhdfpeaaLentQ
namespace Go.Proofs.Ytjeaojolhdfpeaa.LentQ
open Go.RowKit Go.Proofs.YtjeaojolhdfpeaaW.PrintWords Go.Proofs.YtjeaojolhdfpeaaW.PrintLast Go.Proofs.YtjeaojolhdfpeaaW.PrintMore
open Go.Proofs.Ytjeaojolhdfpeaa.PProfileBook
set_option linter.unusedVariables false
set_option linter.unusedSimpArgs false
attribute [local go_sem high] eqA28

/-- Such a row is a row of spots. -/
theorem kx_slice {w : World} {x : List S28} {cs : List Value} (h : kx.K w x cs) : (Kd.slice 28 k28).K w x cs := by
  obtain ⟨A, c, rfl, hl, hr⟩ := h
  refine ⟨A, c, rfl, by omega, ?_⟩
  have hr2 : k28.C w A (x ++ marks 64).length (x ++ marks 64) := by
    rw [List.length_append, marks_length]
    exact hr
  have h2 := Kd.C_take (m := x.length) hr2 (by rw [List.length_append]; omega)
  rw [List.take_left] at h2
  exact h2
theorem kx_C {w : World} {A : Option Addr} {n : Nat} {xs : List (List S28)} (h : Kd.C kx w A n xs) : Kd.C (Kd.slice 28 k28) w A n xs := Kd.C_imp (d := kx) (d' := Kd.slice 28 k28) rfl (fun _ _ _ h => kx_slice h) h
theorem at_kx {w : World} {A : Option Addr} {n : Nat} {xs : List (List S28)} (h : Kd.C kx w A n xs) (i : Int) (h0 : 0 ≤ i) (h1 : i < n) :
    ∃ ad A0 c0, A = some ad ∧ w.cell? (ad.add i.toNat) = some (.slice A0 (rd_L3 xs i).length c0) ∧ (rd_L3 xs i).length + 64 ≤ c0 ∧ k28.C w A0 ((rd_L3 xs i).length + 64) (rd_L3 xs i ++ marks 64) := by
  obtain ⟨ad, c, e, _, hK, hc0⟩ := Kd.C_get h ([] : List S28) i h0 h1
  have hc : ∀ j u, c[j]? = some u → w.cell? (ad.add (i.toNat * 1 + j)) = some u := hc0
  obtain ⟨A0, c0, rfl, l0, g0⟩ := hK
  exact ⟨ad, A0, c0, e, by have hq := hc 0 _ rfl; rwa [Nat.mul_one, Nat.add_zero] at hq, l0, g0⟩

/-! SameProfile of a profile and itself. -/
theorem wrap_nat (i n : Nat) (h : i < n) (hn : n ≤ 9223372036854775807) : wrap64 ((i : Int) + 1) = ((i + 1 : Nat) : Int) := by unfold wrap64; omega
theorem same_l1 (l : List (List S28)) (i : Nat) (hi : i < l.length) (hn : (rd_L3 l (i : Int)).length ≤ 9223372036854775807)
    (hnext : Ev (fun k => portageref0_SameProfile.l0 k (wrap64 ((i : Int) + 1)) l l) true) (e : Nat) : ∀ j : Nat, (rd_L3 l (i : Int)).length - j = e → Ev (fun k => portageref0_SameProfile.l1 k (i : Int) (j : Int) l l) true := by
  induction e with
  | zero =>
    intro j hj
    exact Ev.step (fun k => by simp only [portageref0_SameProfile.l1]; rw [if_pos (by omega), if_pos (by omega), if_neg (by omega)]) hnext
  | succ e ih =>
    intro j hj
    refine Ev.step (fun k => ?_) (ih (j + 1) (by omega))
    simp only [portageref0_SameProfile.l1]
    rw [if_pos (by omega), if_pos (by omega), if_pos (by omega), if_pos (by omega), if_pos (by omega), if_pos (by omega), if_neg (by simp), wrap_nat j _ (by omega) hn]
theorem same_l0 (l : List (List S28)) (hl : l.length ≤ 9223372036854775807) (hn : ∀ x ∈ l, x.length ≤ 9223372036854775807) (d : Nat) : ∀ i : Nat, l.length - i = d → Ev (fun k => portageref0_SameProfile.l0 k (i : Int) l l) true := by
  induction d with
  | zero =>
    intro i hi
    exact Ev.step (fun k => by simp only [portageref0_SameProfile.l0]; rw [if_neg (by omega)]) (Ev.now true)
  | succ d ih =>
    intro i hi
    have hx : (rd_L3 l (i : Int)).length ≤ 9223372036854775807 := hn _ (by simp [rd_L3, List.getD_eq_getElem?_getD, List.getElem?_eq_getElem (show i < l.length by omega)])
    refine Ev.step (fun k => ?_) (same_l1 l i (by omega) hx (by rw [wrap_nat i _ (by omega) hl]; exact ih (i + 1) (by omega)) _ 0 rfl)
    simp only [portageref0_SameProfile.l0]
    rw [if_pos (by omega), if_pos (by omega), if_pos (by omega), if_pos trivial]
    rfl
theorem same_self (l : List (List S28)) (hl : l.length ≤ 9223372036854775807) (hn : ∀ x ∈ l, x.length ≤ 9223372036854775807) : ∃ k, portageref0_SameProfile.f k l l = some true := by
  obtain ⟨k, hk⟩ := (same_l0 l hl hn _ 0 rfl).rounds
  refine ⟨k, ?_⟩
  unfold portageref0_SameProfile.f
  rw [if_pos rfl]
  exact hk

structure St2 (w : World) (Ag A : Option Addr) (n cg c : Nat) (W : World) : Prop where
  b1 : W.heap[w.heap.size]? = some (.cells #[.slice Ag n cg] 24 (0, 0))
  b2 : W.heap[w.heap.size + 1]? = some (.cells #[.slice A n c] 24 (0, 0))
  below : Below w.heap.size w W

set_option maxHeartbeats 4000000 in
set_option maxRecDepth 100000 in
theorem kept_calls (Ag A : Option Addr) (cg c : Nat) (l : List (List S28)) (w : World) (hg : Kd.C kx w Ag l.length l) (hcg : l.length ≤ cg) (hr : Kd.C (Kd.slice 28 k28) w A l.length l) (hc : l.length ≤ c)
    (hl : l.length * 24 ≤ 140737488351232) (hin : ∀ x ∈ l, x.length * 24 ≤ 140737488351232) :
    Calls Try.prog 14 #[.agg #[.slice Ag l.length cg], .agg #[.slice A l.length c]] w fun e w' => e = .returned (.bool true) ∧ Below w.heap.size w w' := by
  obtain ⟨ks, hks⟩ := same_self l (by omega) (fun x hx => by have := hin x hx; omega)
  have HG := Aside0.mk hg
  have HR := Aside0.mk hr
  have HI := Aside0.mk hin
  have HK := Aside0.mk hks
  clear hg hr hin hks
  have hS : St2 w Ag A l.length cg c ((w.alloc (.cells #[.slice Ag l.length cg] 24)).alloc (.cells #[.slice A l.length c] 24)) :=
    ⟨blk_alloc (blk_new _ _) _, by have := blk_new (w.alloc (.cells #[.slice Ag l.length cg] 24)) (.cells #[.slice A l.length c] 24); simpa using this, below_alloc (below_alloc (Below.refl _ _) _) _⟩
  have HS := Aside0.mk hS
  clear hS
  go_enter Try.func14, Try.ntmps14
  go_wp2_with fail
  generalize (w.alloc (.cells #[.slice Ag l.length cg] 24)).alloc (.cells #[.slice A l.length c] 24) = W0 at HS ⊢
  refine (portageref0_SameProfile.calls ks Ag cg l A c l true _ (kx_C (Kd.C_below HG.out HS.out.below)) hcg (Kd.C_below HR.out HS.out.below) hc HK.out).mono ?_
  rintro e w1 ⟨rfl, hb1⟩
  have HS1 : Aside0 (St2 w Ag A l.length cg c w1) := ⟨⟨blk_below HS.out.b1 hb1, blk_below HS.out.b2 hb1, below_step HS.out.below hb1⟩⟩
  clear hb1 HS
  go_wp2_with fail
  go_loopw [5] (fun i wr => ∃ k : Nat, k ≤ l.length ∧ i = .int .i64 k ∧ Aside0 (St2 w Ag A l.length cg c wr)) (fun i _ => l.length - (intOf i).toNat)
  case atStart => exact ⟨0, Nat.zero_le _, rfl, HS1⟩
  case round =>
    clear HS1
    obtain ⟨k, hk, rfl, HS⟩ := hrel
    have hc1 : wr.cell? ⟨w.heap.size, 0, none⟩ = some (.slice Ag l.length cg) := (blk_cell HS.out.b1 0).trans rfl
    have hc2 : wr.cell? ⟨w.heap.size + 1, 0, none⟩ = some (.slice A l.length c) := (blk_cell HS.out.b2 0).trans rfl
    by_cases hlt : k < l.length
    · obtain ⟨ad, A0, c0, rfl, h0, hl0, hr0⟩ := at_L3 HR.out (k : Int) (by omega) (by omega)
      obtain ⟨ag, A1, c1, rfl, h1, hl1, hr1⟩ := at_kx HG.out (k : Int) (by omega) (by omega)
      simp only [Int.toNat_natCast] at h0 h1
      replace h0 := (HS.out.below.cell (World.block_lt_of_cell? w _ h0)).trans h0
      replace h1 := (HS.out.below.cell (World.block_lt_of_cell? w _ h1)).trans h1
      have HR1 := Aside0.mk hr1
      have hlen : (rd_L3 l (k : Int)).length * 24 ≤ 140737488351232 := HI.out _ (by simp [rd_L3, List.getD_eq_getElem?_getD, List.getElem?_eq_getElem hlt])
      clear hr1 hr0
      obtain ⟨x, hx⟩ : ∃ x, x = rd_L3 l (k : Int) := ⟨_, rfl⟩
      rw [← hx] at h0 h1 hl0 hl1 HR1 hlen
      clear hx
      go_wp2_with fail
      go_loopw [8] (fun j wi => ∃ m : Nat, m ≤ 64 ∧ j = .int .i64 m ∧ Aside0 (St2 w (some ag) (some ad) l.length cg c wi)) (fun j _ => 64 - (intOf j).toNat)
      case atStart => exact ⟨0, by omega, rfl, HS⟩
      case round =>
        clear HS h0 h1 hc1 hc2
        obtain ⟨m, hm, rfl, HS⟩ := hrel
        by_cases hm64 : m < 64
        · obtain ⟨a1, rfl, g0, g1, g2, g3⟩ := at_T28 HR1.out ((x.length + m : Nat) : Int) (by omega) (by omega)
          have he : rd_T28 (x ++ marks 64) ((x.length + m : Nat) : Int) = mark m := by
            simp only [rd_T28, Int.toNat_natCast, List.getD_eq_getElem?_getD]
            rw [List.getElem?_append_right (by omega)]
            simp [marks, hm64]
          rw [he] at g0 g1 g2 g3
          simp only [Int.toNat_natCast] at g0 g1 g2 g3
          replace g0 := (HS.out.below.cell (World.block_lt_of_cell? w _ g0)).trans g0
          replace g1 := (HS.out.below.cell (World.block_lt_of_cell? w _ g1)).trans g1
          replace g2 := (HS.out.below.cell (World.block_lt_of_cell? w _ g2)).trans g2
          replace g3 := (HS.out.below.cell (World.block_lt_of_cell? w _ g3)).trans g3
          simp only [mark] at g0 g1 g2 g3
          clear he
          go_wp2_with fail
          go_roundw
          case rel => exact ⟨m + 1, by omega, by go_num, HS⟩
          case measure => simp [intOf]; omega
        · go_wp2
          go_roundw
          case rel => exact ⟨k + 1, by omega, by go_num, HS⟩
          case measure => simp [intOf]; omega
    · go_wp2
      go_ret
      exact ⟨rfl, HS.out.below⟩
end Go.Proofs.Ytjeaojolhdfpeaa.LentQ
