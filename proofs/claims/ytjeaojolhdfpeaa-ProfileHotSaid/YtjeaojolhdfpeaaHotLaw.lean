/- ProfileHot, for every profile: the answers are the reference's; what was handed in is as it was; the answers lie apart. No condition. -/
import Derived.Test.YtjeaojolhdfpeaaHotR
import Derived.Test.YtjeaojolhdfpeaaKeptH
import Derived.Test.YtjeaojolhdfpeaaAptI
namespace Go.Proofs.Ytjeaojolhdfpeaa.HotLaw
open Go.RowKit Go.Proofs.YtjeaojolhdfpeaaW.PrintWords Go.Proofs.YtjeaojolhdfpeaaW.PrintLast Go.Proofs.YtjeaojolhdfpeaaW.PrintMore
open Go.Proofs.Ytjeaojolhdfpeaa.PProfileHot Go.Proofs.Ytjeaojolhdfpeaa.LentH Go.Proofs.Ytjeaojolhdfpeaa.Fam Go.Proofs.Ytjeaojolhdfpeaa.HotW Go.Proofs.Ytjeaojolhdfpeaa.HotR
set_option linter.unusedVariables false
set_option linter.unusedSimpArgs false

theorem same_l0 (l : List Int) (hl : l.length ≤ 9223372036854775807) (d : Nat) : ∀ i : Nat, l.length - i = d → Ev (fun k => portageref0_SameInts.l0 k l l (i : Int)) true := by
  induction d with
  | zero =>
    intro i hi
    exact Ev.step (fun k => by simp only [portageref0_SameInts.l0]; rw [if_neg (by omega)]) (Ev.now true)
  | succ d ih =>
    intro i hi
    refine Ev.step (fun k => ?_) (ih (i + 1) (by omega))
    simp only [portageref0_SameInts.l0]
    rw [if_pos (by omega), if_pos (by omega), if_pos (by omega), if_pos trivial, HotR.wrap_nat i _ (by omega) hl]
theorem same_ints (l : List Int) (hl : l.length ≤ 9223372036854775807) : ∃ k, portageref0_SameInts.f k l l = some true := by
  obtain ⟨k, hk⟩ := (same_l0 l hl _ 0 rfl).rounds
  refine ⟨k, ?_⟩
  unfold portageref0_SameInts.f
  rw [if_pos rfl]
  exact hk

/-- What the law holds: its two boxes, the reference's answer, the lent profile: all in blocks below N. -/
structure Lw (w : World) (A : Option Addr) (n c g2 : Nat) (Ag : Option Addr) (cg N : Nat) (l : List (List S28)) (want : Value) (es : List Int) (W : World) : Prop where
  b1 : W.heap[w.heap.size]? = some (.cells #[.slice A n c] 24 (0, 0))
  b2 : W.heap[g2]? = some (.cells #[.slice Ag n cg] 24 (0, 0))
  wanted : Kd.R (Kd.int .i64) 3 W w.heap.size (fun k => k < N) want es
  own : Kd.R kx 77 W w.heap.size (fun k => k < N) (.slice Ag n cg) l
  below : Below w.heap.size w W
  ge : w.heap.size < N ∧ g2 < N ∧ N ≤ W.heap.size
namespace Lw
variable {w W W1 : World} {A Ag : Option Addr} {n c g2 cg N : Nat} {l : List (List S28)} {want v : Value} {es xs : List Int} {lo hi : Nat} {S : Nat → Prop}
theorem step (h : Lw w A n c g2 Ag cg N l want es W) (hb : Below W.heap.size W W1) : Lw w A n c g2 Ag cg N l want es W1 :=
  ⟨blk_below h.b1 hb, blk_below h.b2 hb, Kd.R_below h.wanted hb, Kd.R_below h.own hb, below_step h.below hb, ⟨h.ge.1, h.ge.2.1, Nat.le_trans h.ge.2.2 hb.size⟩⟩
theorem kept (h : Lw w A n c g2 Ag cg N l want es W) (hk : Kept W W1 S) (hs : ∀ k, k < N → ¬ S k) (hb : Below w.heap.size w W1) : Lw w A n c g2 Ag cg N l want es W1 :=
  ⟨blk_kept h.b1 hk (hs _ h.ge.1), blk_kept h.b2 hk (hs _ h.ge.2.1), Kd.R_kept h.wanted hk (fun k hlt => hs k hlt), Kd.R_kept h.own hk (fun k hlt => hs k hlt), hb, ⟨h.ge.1, h.ge.2.1, Nat.le_trans h.ge.2.2 hk.1⟩⟩
end Lw
/-- An answer's row: in blocks from lo to hi. -/
def Row (w W : World) (lo hi : Nat) (v : Value) (es : List Int) : Prop := Kd.R (Kd.int .i64) 3 W w.heap.size (fun k => lo ≤ k ∧ k < hi) v es
theorem Row.step {w W W1 : World} {lo hi : Nat} {v : Value} {es : List Int} (h : Row w W lo hi v es) (hb : Below W.heap.size W W1) : Row w W1 lo hi v es := Kd.R_below h hb
theorem Row.new {w W W1 : World} {v : Value} {es : List Int} (h : Kd.R (Kd.int .i64) 3 W1 W.heap.size (fun k => W.heap.size ≤ k) v es) (hw : w.heap.size ≤ W.heap.size) : Row w W1 W.heap.size W1.heap.size v es :=
  Kd.R_mono (Kd.R_bound (Kd.R_lower h hw)) (fun k hk => ⟨hk.1, hk.2.2.1⟩)

/-- Two rows, one behind the other. -/
def vs2 (r0 r1 : HS) : Nat → HS
  | 0 => r0
  | _ => r1
theorem own2 {r0 r1 : HS} {b : Nat} (h : Own (vs2 r0 r1) 2 b) : (hv r0).ownBlock = some b ∨ (hv r1).ownBlock = some b := by
  obtain ⟨j, hj, h⟩ := h
  match j, hj, h with
  | 0, _, h => exact .inl h
  | 1, _, h => exact .inr h
theorem given2 {w W : World} {r0 r1 : HS} {a0 b0 a1 b1 : Nat} {es : List Int} (h0 : Row w W a0 b0 (hv r0) es) (h1 : Row w W a1 b1 (hv r1) es) (hb0 : b0 ≤ a1) (hb : Below w.heap.size w W) : Given (Kd.int .i64) 3 w W (vs2 r0 r1) 2 (fun _ => es) := by
  refine ⟨hb, fun j hj => ?_, fun i hi j hj hne b hbi hbj => ?_⟩
  · match j, hj with
    | 0, _ => exact Kd.R_reok rfl h0 (fun b hb => hb.symm)
    | 1, _ => exact Kd.R_reok rfl h1 (fun b hb => hb.symm)
  · have k0 : ∀ b, (hv r0).ownBlock = some b → a0 ≤ b ∧ b < b0 := h0.1
    have k1 : ∀ b, (hv r1).ownBlock = some b → a1 ≤ b ∧ b < b1 := h1.1
    match i, hi, j, hj, hbi, hbj with
    | 0, _, 0, _, _, _ => exact hne rfl
    | 1, _, 1, _, _, _ => exact hne rfl
    | 0, _, 1, _, hi, hj => have := k0 b hi; have := k1 b hj; omega
    | 1, _, 0, _, hi, hj => have := k1 b hi; have := k0 b hj; omega
theorem outer_C {W : World} {o : Nat} {l : List HS} (h : W.heap[o]? = some (.cells (l.map hv).toArray 51 (0, 0))) (hl : l.length ≤ 9223372036854775807) : kh.C W (some ⟨o, 0, none⟩) l.length l := by
  refine ⟨rfl, hl, fun _ => ⟨_, rfl, fun j p hp => ⟨[hv p], rfl, rfl, fun i u hu => ?_⟩⟩⟩
  have hi : i = 0 := by
    have := (List.getElem?_eq_some_iff.1 hu).1
    simp at this
    exact this
  subst hi
  have hu' : hv p = u := by simpa using hu
  subst hu'
  have h1 : (⟨o, 0, none⟩ : Addr).add (j * kh.sz + 0) = ⟨o, j, none⟩ := by
    have : j * kh.sz + 0 = j := by show j * 1 + 0 = j; omega
    rw [this, Addr.add_lit]
    simp
  rw [h1, blk_cell h j]
  simp [hp]

set_option maxHeartbeats 8000000 in
set_option maxRecDepth 100000 in
theorem law (A : Option Addr) (c : Nat) (l : List (List S28)) (least : Int) (w : World) (hr : Kd.C (Kd.slice 28 k28) w A l.length l) (hc : l.length ≤ c) (hl : l.length * 24 ≤ 140737488351232) (hin : ∀ x ∈ l, x.length * 24 ≤ 140737488351232)
    (hg : ∀ x ∈ l, ∀ s ∈ x, -9223372036854775808 ≤ s.f0 ∧ s.f0 ≤ 9223372036854775807) :
    Calls Try.prog 7 #[.agg #[.slice A l.length c], .int .i64 least] w fun e w' => e = .returned (.bool true) ∧ Below w.heap.size w w' := by
  obtain ⟨es, kr, hkr, hp, hs, hel⟩ := ref_hot l least (by omega)
  obtain ⟨ks, hks⟩ := same_ints es (by omega)
  have HKS := Aside0.mk hks
  have HKR := Aside0.mk hkr
  have HP := Aside0.mk hp
  have HS := Aside0.mk hs
  have HR := Aside0.mk hr
  have HI := Aside0.mk hin
  have HGR := Aside0.mk hg
  clear hr hin hg hkr hks hp hs
  have hHot := fun (A2 : Option Addr) (c2 : Nat) (W : World) (h1 : Kd.C (Kd.slice 28 k28) W A2 l.length l) (h2 : l.length ≤ c2) => hot_calls A2 c2 l least W h1 h2 hl HGR.out es HP.out HS.out
  have HH := Aside0.mk hHot
  clear hHot HGR HP HS
  have HB := Aside0.mk (below_alloc (Below.refl w.heap.size w) (.cells #[.slice A l.length c] 24))
  have B1 : Aside0 ((w.alloc (.cells #[.slice A l.length c] 24)).heap[w.heap.size]? = some (.cells #[.slice A l.length c] 24 (0, 0))) := ⟨blk_new _ _⟩
  go_enter Try.func7, Try.ntmps7
  go_wp2_with fail
  generalize w.alloc (.cells #[.slice A l.length c] 24) = W0 at HB B1 ⊢
  -- the reference's answer
  refine (portageref18_Hot.calls kr A c l least es _ (Kd.C_below HR.out HB.out) hc HKR.out).mono ?_
  rintro e w1 ⟨want, rfl, ho, hb⟩
  have HW := Aside0.mk (Kd.R_lower ho HB.out.size)
  replace HB := Aside0.mk (below_step HB.out hb)
  replace B1 := Aside0.mk (blk_below B1.out hb)
  clear ho hb
  have hc1 : w1.cell? ⟨w.heap.size, 0, none⟩ = some (.slice A l.length c) := (blk_cell B1.out 0).trans rfl
  go_wp2_with fail
  clear hc1
  -- lent
  refine (lent_calls A c l _ (Kd.C_below HR.out HB.out) hl HI.out).mono ?_
  rintro e w2 ⟨v, rfl, ho, hb⟩
  obtain ⟨Ag, cg, rfl, hcg, _⟩ := Kd.R_reads ho
  have HC := Aside0.mk hcg
  have HX := Aside0.mk (Kd.R_lower ho HB.out.size)
  replace HW := Aside0.mk (Kd.R_below HW.out hb)
  replace HB := Aside0.mk (below_step HB.out hb)
  replace B1 := Aside0.mk (blk_below B1.out hb)
  clear ho hb hcg
  go_wp2_with fail
  have HL : Aside0 (Lw w A l.length c w2.heap.size Ag cg (w2.heap.size + 1) l want es (w2.alloc (.cells #[.slice Ag l.length cg] 24))) :=
    ⟨⟨blk_alloc B1.out _, blk_new _ _, Kd.R_mono (Kd.R_bound (Kd.R_alloc HW.out _)) (fun k hk => by have := hk.2.2.1; simpa using this), Kd.R_mono (Kd.R_bound (Kd.R_alloc HX.out _)) (fun k hk => by have := hk.2.2.1; simpa using this), below_alloc HB.out _,
      ⟨by have := blk_lt B1.out; omega, by omega, by simp⟩⟩⟩
  clear HX HW HB B1
  generalize w2.alloc (.cells #[.slice Ag l.length cg] 24) = W2 at HL ⊢
  generalize w2.heap.size = g2 at HL ⊢
  -- the first answer
  refine (HH.out Ag cg _ (kx_C (Kd.R_reads' HL.out.own).2.2) HC.out).mono ?_
  rintro e w3 ⟨va, rfl, ho, hb⟩
  have HA := Aside0.mk (Row.new (w := w) ho HL.out.below.size)
  have hN := Aside0.mk HL.out.ge.2.2
  have hM := Aside0.mk hb.size
  replace HL := Aside0.mk (HL.out.step hb)
  clear ho hb
  have hc2 : w3.cell? ⟨g2, 0, none⟩ = some (.slice Ag l.length cg) := (blk_cell HL.out.b2 0).trans rfl
  go_wp2_with fail
  clear hc2
  -- the second
  refine (HH.out Ag cg _ (kx_C (Kd.R_reads' HL.out.own).2.2) HC.out).mono ?_
  rintro e w4 ⟨vb, rfl, ho, hb⟩
  have HA2 := Aside0.mk (Row.new (w := w) ho HL.out.below.size)
  have hN1 := Aside0.mk (Nat.le_refl w3.heap.size)
  have HQ := Aside0.mk (Nat.le_refl w4.heap.size)
  replace HL := Aside0.mk (HL.out.step hb)
  replace HA := Aside0.mk (HA.out.step hb)
  clear ho hb
  obtain ⟨Aw, cw, rfl⟩ := Kd.R_slice HL.out.wanted
  obtain ⟨Aa, ca, rfl⟩ := Kd.R_slice HA.out
  obtain ⟨Ab, cb, rfl⟩ := Kd.R_slice HA2.out
  go_wp2_with fail
  refine (portageref0_SameInts.calls ks Aa ca es Aw cw es true _ (Kd.R_reads' HA.out).2.2 (Kd.R_reads' HA.out).2.1 (Kd.R_reads' HL.out.wanted).2.2 (Kd.R_reads' HL.out.wanted).2.1 HKS.out).mono ?_
  rintro e w7 ⟨rfl, hb⟩
  replace HQ := Aside0.mk (Nat.le_trans HQ.out hb.below.size)
  replace HL := Aside0.mk (HL.out.step hb.below)
  replace HA := Aside0.mk (HA.out.step hb.below)
  replace HA2 := Aside0.mk (HA2.out.step hb.below)
  clear hb
  go_wp2_with fail
  refine (portageref0_SameInts.calls ks Ab cb es Aw cw es true _ (Kd.R_reads' HA2.out).2.2 (Kd.R_reads' HA2.out).2.1 (Kd.R_reads' HL.out.wanted).2.2 (Kd.R_reads' HL.out.wanted).2.1 HKS.out).mono ?_
  rintro e w8 ⟨rfl, hb⟩
  replace HQ := Aside0.mk (Nat.le_trans HQ.out hb.below.size)
  replace HL := Aside0.mk (HL.out.step hb.below)
  replace HA := Aside0.mk (HA.out.step hb.below)
  replace HA2 := Aside0.mk (HA2.out.step hb.below)
  clear hb
  have hc1 : w8.cell? ⟨w.heap.size, 0, none⟩ = some (.slice A l.length c) := (blk_cell HL.out.b1 0).trans rfl
  have hc2 : w8.cell? ⟨g2, 0, none⟩ = some (.slice Ag l.length cg) := (blk_cell HL.out.b2 0).trans rfl
  go_wp2_with fail
  clear hc1 hc2
  refine (kept_calls Ag A cg c l _ (Kd.R_reads' HL.out.own).2.2 HC.out (Kd.C_below HR.out HL.out.below) hc hl HI.out).mono ?_
  rintro e w9 ⟨rfl, hb⟩
  replace HQ := Aside0.mk (Nat.le_trans HQ.out hb.size)
  replace HL := Aside0.mk (HL.out.step hb)
  replace HA := Aside0.mk (HA.out.step hb)
  replace HA2 := Aside0.mk (HA2.out.step hb)
  clear hb
  go_wp2_with fail
  -- they lie apart
  have HGv : Aside0 (Given (Kd.int .i64) 3 w (w9.alloc (.cells #[.slice Aa es.length ca, .slice Ab es.length cb] 51)) (vs2 (Aa, es.length, ca) (Ab, es.length, cb)) 2 (fun _ => es)) :=
    ⟨given2 (r0 := (Aa, es.length, ca)) (r1 := (Ab, es.length, cb)) (HA.out.step (below_alloc (Below.refl _ _) _)) (HA2.out.step (below_alloc (Below.refl _ _) _)) hN1.out (below_alloc HL.out.below _)⟩
  have HNo : Aside0 (∀ k, Own (vs2 (Aa, es.length, ca) (Ab, es.length, cb)) 2 k → g2 < k ∧ k < w9.heap.size) := ⟨fun k hk => by
    have h1 := hN.out
    have h2 := hM.out
    rcases own2 hk with h | h
    · exact ⟨by have := (HA.out.1 k h).1; omega, Kd.R_lt HA.out k h⟩
    · exact ⟨by have := (HA2.out.1 k h).1; omega, Kd.R_lt HA2.out k h⟩⟩
  refine (apartInts_calls (some ⟨w9.heap.size, 0, none⟩) 2 2 (vs2 (Aa, es.length, ca) (Ab, es.length, cb)) (fun _ => es.length) (fun _ => es) w _ HGv.out (fun _ _ => rfl) (fun W' hk => outer_C (l := [(Aa, es.length, ca), (Ab, es.length, cb)]) (blk_kept (blk_new _ _) hk (fun h => by have := (HNo.out _ h).2; omega)) (by simp)) (fun _ _ => by omega) (by decide)).mono ?_
  rintro e w11 ⟨rfl, hb, hk⟩
  replace HL := Aside0.mk ((HL.out.step (below_alloc (Below.refl _ _) _)).kept hk (fun k hlt hs => by have := (HNo.out _ hs).1; omega) hb)
  clear hb hk HNo HGv HA HA2
  have hc2 : w11.cell? ⟨g2, 0, none⟩ = some (.slice Ag l.length cg) := (blk_cell HL.out.b2 0).trans rfl
  go_wp2_with fail
  clear hc2
  -- and once more
  refine (HH.out Ag cg _ (kx_C (Kd.R_reads' HL.out.own).2.2) HC.out).mono ?_
  rintro e w12 ⟨vd, rfl, ho, hb⟩
  replace HL := Aside0.mk (HL.out.step hb)
  obtain ⟨Ad, cd, rfl⟩ := Kd.R_slice ho
  have HA4 := Aside0.mk ho
  clear ho hb
  go_wp2_with fail
  refine (portageref0_SameInts.calls ks Ad cd es Aw cw es true _ (Kd.R_reads' HA4.out).2.2 (Kd.R_reads' HA4.out).2.1 (Kd.R_reads' HL.out.wanted).2.2 (Kd.R_reads' HL.out.wanted).2.1 HKS.out).mono ?_
  rintro e w13 ⟨rfl, hb⟩
  replace HL := Aside0.mk (HL.out.step hb.below)
  clear hb
  go_wp2_with fail
  go_ret
  exact ⟨rfl, HL.out.below⟩
end Go.Proofs.Ytjeaojolhdfpeaa.HotLaw
