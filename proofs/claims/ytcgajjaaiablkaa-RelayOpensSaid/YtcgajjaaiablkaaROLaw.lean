/- RelayOpens, for all bytes: they are opened as the document does, twice, and written over once more; they are as they were; the answers lie apart. -/
import Derived.Test.YtcgajjaaiablkaaPRelayOpensx0
import Derived.Test.YtcgajjaaiablkaaLentB
import Derived.Test.YtcgajjaaiablkaaApart
import Derived.Test.YtcgajjaaiablkaaDeskApart
namespace Go.Proofs.Ytcgajjaaiablkaa.ROLaw
open Go.RowKit Go.Proofs.YtcgajjaaiablkaaW.PrintWords Go.Proofs.YtcgajjaaiablkaaW.PrintLast Go.Proofs.YtcgajjaaiablkaaW.PrintMore
open Go.Proofs.Ytcgajjaaiablkaa.Reader Go.Proofs.Ytcgajjaaiablkaa.RHd Go.Proofs.Ytcgajjaaiablkaa.ROpened Go.Proofs.Ytcgajjaaiablkaa.Fam
set_option linter.unusedVariables false
set_option linter.unusedSimpArgs false

theorem pick_f (a : Int) (n : Nat) (h0 : 0 < n) (hn : n ≤ 140737488355328) : ∃ p : Nat, p < n ∧ PRelayOpens.portagekit_Pick.f a (n : Int) = some (p : Int) := by
  have h1 : (a.tmod (n : Int)).natAbs < n := by rw [Int.natAbs_tmod]; exact Nat.mod_lt _ (by simpa using h0)
  unfold PRelayOpens.portagekit_Pick.f
  rw [if_neg (by omega), if_neg (by omega)]
  by_cases h : a.tmod (n : Int) < 0
  · refine ⟨(a.tmod (n : Int) + n).toNat, by omega, ?_⟩
    rw [if_pos h, show wrap64 (a.tmod (n : Int) + (n : Int)) = ((a.tmod (n : Int) + n).toNat : Int) by unfold wrap64; omega]
  · refine ⟨(a.tmod (n : Int)).toNat, by omega, ?_⟩
    rw [if_neg h]
    congr 1
    omega
/-- A row in blocks from lo to hi. -/
def Rw {α : Type} (d : Kd α) (e : Nat) (w W : World) (lo hi : Nat) (v : Value) (xs : List α) : Prop := d.R e W w.heap.size (fun k => lo ≤ k ∧ k < hi) v xs
section
variable {α : Type} {d : Kd α} {e : Nat} {w W W1 : World} {lo hi : Nat} {v : Value} {xs : List α}
theorem Rw.step (h : Rw d e w W lo hi v xs) (hb : Below W.heap.size W W1) : Rw d e w W1 lo hi v xs := Kd.R_below h hb
theorem Rw.new (h : d.R e W1 W.heap.size (fun _ => True) v xs) (hw : w.heap.size ≤ W.heap.size) : Rw d e w W1 W.heap.size W1.heap.size v xs := Kd.R_mono (Kd.R_lower (Kd.R_bound h) hw) (fun k hk => ⟨hk.2.1, hk.2.2.1⟩)
theorem Rw.far (h : Rw d e w W lo hi v xs) {p : Addr} (hp : p.block < lo) (u : Value) : Rw d e w (W.setCell p u) lo hi v xs := Kd.R_far h (fun k hk => by omega) u
theorem Rw.lower {lo2 : Nat} (h : Rw d e w W lo hi v xs) (hl : lo2 ≤ lo) : Rw d e w W lo2 hi v xs := Kd.R_mono h (fun k hk => ⟨Nat.le_trans hl hk.1, hk.2⟩)
theorem Rw.reads (h : Rw d e w W lo hi v xs) : ∃ A c, v = .slice A xs.length c ∧ xs.length ≤ c ∧ d.C W A xs.length xs := by
  obtain ⟨A, c, rfl⟩ := Kd.R_slice h
  exact ⟨A, c, rfl, (Kd.R_reads' h).2⟩
end
/-- Bytes stay where only rows of texts are written. -/
theorem Rw.typed {w W W1 : World} {lo hi : Nat} {v : Value} {xs : List Int} {S : Nat → Prop} (h : Rw (Kd.int .u8) 5 w W lo hi v xs) (hk : Kept W W1 S) (hs : ∀ k, S k → ∃ cells, W.heap[k]? = some (.cells cells 9 (0, 0))) : Rw (Kd.int .u8) 5 w W1 lo hi v xs := by
  refine Kd.R_mono (Kd.R_kept (Kd.R_bound h) hk (fun k hk hS => ?_)) (fun k hk => hk.1)
  obtain ⟨_, _, _, q, hq, c1, h1⟩ := hk
  obtain ⟨c2, h2⟩ := hs k hS
  have hq2 : q ∈ [5] := hq
  have hq5 : q = 5 := by simpa using hq2
  subst hq5
  rw [h1] at h2
  simp at h2
theorem given_of {α : Type} {d : Kd α} {e : Nat} (hE : d.E = []) {w W : World} {n : Nat} {vs : Nat → HS} {xs : Nat → List α} (lo hi : Nat → Nat) (hb : Below w.heap.size w W) (hr : ∀ j, j < n → Rw d e w W (lo j) (hi j) (hv (vs j)) (xs j)) (hs : ∀ i, i < n → ∀ j, j < n → i ≠ j → hi i ≤ lo j ∨ hi j ≤ lo i) : Given d e w W vs n xs := by
  refine ⟨hb, fun j hj => Kd.R_reok hE (hr j hj) (fun b hb => hb.symm), fun i hi j hj hne b hbi hbj => ?_⟩
  have h1 := (hr i hi).1 b hbi
  have h2 := (hr j hj).1 b hbj
  have h3 := hs i hi j hj hne
  simp only at h1 h2
  omega
theorem outer_C {W : World} {o : Nat} {l : List HS} {t : TypeId} (h : W.heap[o]? = some (.cells (l.map hv).toArray t (0, 0))) (hl : l.length ≤ 9223372036854775807) : kh.C W (some ⟨o, 0, none⟩) l.length l := by
  refine ⟨rfl, hl, fun _ => ⟨_, rfl, fun j p hp => ⟨[hv p], rfl, rfl, fun i u hu => ?_⟩⟩⟩
  have hi : i = 0 := by
    have := (List.getElem?_eq_some_iff.1 hu).1
    simp at this
    exact this
  subst hi
  have hu' : hv p = u := by simpa using hu
  subst hu'
  have h1 : (⟨o, 0, none⟩ : Addr).add (j * kh.sz + 0) = ⟨o, j, none⟩ := by
    have : j * kh.sz + 0 = j := by show j * 1 + 0 = j; omega
    rw [this, Addr.add_lit]
    simp
  rw [h1, blk_cell h j]
  simp [hp]
def vs3 (r0 r1 r2 : HS) : Nat → HS
  | 0 => r0
  | 1 => r1
  | _ => r2
def vs4 (r0 r1 r2 r3 : HS) : Nat → HS
  | 0 => r0
  | 1 => r1
  | 2 => r2
  | _ => r3
theorem own3 {r0 r1 r2 : HS} {b : Nat} (h : Own (vs3 r0 r1 r2) 3 b) : (hv r0).ownBlock = some b ∨ (hv r1).ownBlock = some b ∨ (hv r2).ownBlock = some b := by
  obtain ⟨j, hj, h⟩ := h
  match j, hj, h with
  | 0, _, h => exact .inl h
  | 1, _, h => exact .inr (.inl h)
  | 2, _, h => exact .inr (.inr h)
theorem own4 {r0 r1 r2 r3 : HS} {b : Nat} (h : Own (vs4 r0 r1 r2 r3) 4 b) : (hv r0).ownBlock = some b ∨ (hv r1).ownBlock = some b ∨ (hv r2).ownBlock = some b ∨ (hv r3).ownBlock = some b := by
  obtain ⟨j, hj, h⟩ := h
  match j, hj, h with
  | 0, _, h => exact .inl h
  | 1, _, h => exact .inr (.inl h)
  | 2, _, h => exact .inr (.inr (.inl h))
  | 3, _, h => exact .inr (.inr (.inr h))
def of3 {α : Type} (a b c : α) : Nat → α
  | 0 => a
  | 1 => b
  | _ => c
def of4 {α : Type} (a b c e : α) : Nat → α
  | 0 => a
  | 1 => b
  | 2 => c
  | _ => e

set_option maxHeartbeats 8000000 in
set_option maxRecDepth 100000 in
theorem law (A : Option Addr) (c : Nat) (b : List Int) (at_ : Int) (w : World) (hC : Kd.C (Kd.int .u8) w A b.length b) (hc : b.length ≤ c) (hl : b.length ≤ 140737488351232) (hb : Bytes b) :
    Calls Try.prog 4 #[.slice A b.length c, .int .i64 at_] w fun e w' => e = .returned (.bool true) ∧ Below w.heap.size w w' := by
  obtain ⟨kl, hkl⟩ := LentB.lent_f b hl
  obtain ⟨kk, hkk⟩ := LentB.kept_f b hl
  obtain ⟨ms, hms⟩ : ∃ ms, ms = b ++ LentB.mks 64 := ⟨_, rfl⟩
  have hml : ms.length = b.length + 64 := by rw [hms, List.length_append, LentB.mks_length]
  have hmt : ms.take b.length = b := by rw [hms, List.take_left]
  rw [← hms] at hkl hkk
  clear hms
  have HKL := Aside0.mk hkl
  have HKK := Aside0.mk hkk
  have HC := Aside0.mk (fun W (h : Below w.heap.size w W) => Kd.C_below hC h)
  have HCC := Aside0.mk hc
  have HML := Aside0.mk hml
  have HMT := Aside0.mk hmt
  have HOP := Aside0.mk (fun A c W (h1 : Kd.C (Kd.int .u8) W A b.length b) (h2 : b.length ≤ c) => opened_ A c b W h1 h2 (by omega) hb)
  have hol := opn_len b hb
  have HOL := Aside0.mk hol
  obtain ⟨R, hR⟩ : ∃ R, R = opn b := ⟨_, rfl⟩
  rw [← hR] at HOP HOL hol
  have HSB := Aside0.mk (same_f R.1 (by omega))
  have HST := Aside0.mk (sameT_f R.2.1 (by omega))
  clear hR hC hc hkl hkk hml hmt hol
  go_enter Try.func4, Try.ntmps4
  go_upto_region 2 with (go_at_call 12; refine (PRelayOpens.portagekit_Lent.calls kl A c b ms w (HC.out w (Below.refl _ _)) HCC.out HKL.out).mono ?_; rintro e w1 ⟨v5, rfl, hR5, hb1⟩; obtain ⟨A5, c5, rfl⟩ := Kd.R_slice hR5; have HL1 := Aside0.mk (show Rw (Kd.int .u8) 5 w w1 w.heap.size w1.heap.size _ ms from Rw.new hR5 (Nat.le_refl _)); have HB1 := Aside0.mk hb1; clear hR5 hb1)
  have hcm : b.length ≤ ms.length := by have := HML.out; omega
  have hcl : b.length ≤ c5 := by have := (Kd.R_reads' HL1.out).2.1; omega
  have HIN1 := Aside0.mk (show Rw (Kd.int .u8) 5 w w1 w.heap.size w1.heap.size (.slice A5 b.length c5) b by have h := Kd.R_take HL1.out hcm; rwa [HMT.out] at h)
  go_upto_region 4 with (go_at_call 13; refine (HOP.out A5 c5 w1 (Kd.R_reads' HIN1.out).2.2 hcl).mono ?_; rintro e w2 ⟨v7, v8, rfl, hr7, hr8, hb2⟩; have HI2 := Aside0.mk (Rw.new (w := w) hr7 HB1.out.size); have HO2 := Aside0.mk (Rw.new (w := w) hr8 HB1.out.size); have HL2 := Aside0.mk (HL1.out.step hb2); have HIN2 := Aside0.mk (HIN1.out.step hb2); have HB2 := Aside0.mk (below_step HB1.out hb2); have HZ2 := Aside0.mk hb2.size; clear hr7 hr8 hb2)
  go_upto_region 5 with (go_at_call 13; refine (HOP.out A5 c5 w2 (Kd.R_reads' HIN2.out).2.2 hcl).mono ?_; rintro e w3 ⟨v10, v11, rfl, hr7, hr8, hb3⟩; have HJ3 := Aside0.mk (Rw.new (w := w) hr7 HB2.out.size); have HP3 := Aside0.mk (Rw.new (w := w) hr8 HB2.out.size); have HI3 := Aside0.mk (HI2.out.step hb3); have HO3 := Aside0.mk (HO2.out.step hb3); have HL3 := Aside0.mk (HL2.out.step hb3); have HIN3 := Aside0.mk (HIN2.out.step hb3); have HB3 := Aside0.mk (below_step HB2.out hb3); have HZ3 := Aside0.mk hb3.size; clear hr7 hr8 hb3)
  clear HL1 HIN1 HI2 HO2 HL2 HIN2 HB2
  go_upto_region 7 with (go_at_call 14; refine (PRelayOpens.portagekit_Kept.calls kk A5 c5 ms A c b true _ (Kd.R_reads' HL3.out).2.2 (Kd.R_reads' HL3.out).2.1 (HC.out _ HB3.out) HCC.out HKK.out).mono ?_; rintro e w4 ⟨rfl, ⟨⟨m4, rfl⟩⟩⟩)
  have hI := HI3.out.step (pw_below_drewN (Below.refl _ _) m4)
  have hJ := HJ3.out.step (pw_below_drewN (Below.refl _ _) m4)
  have hO := HO3.out.step (pw_below_drewN (Below.refl _ _) m4)
  have hP := HP3.out.step (pw_below_drewN (Below.refl _ _) m4)
  have hIN := HIN3.out.step (pw_below_drewN (Below.refl _ _) m4)
  have hBB := pw_below_drewN HB3.out m4
  have hSZ : w3.heap.size ≤ (w3.drewN m4).heap.size := Nat.le_refl _
  clear HI3 HJ3 HO3 HP3 HL3 HIN3 HB3
  generalize w3.drewN m4 = W4 at hI hJ hO hP hIN hBB hSZ ⊢
  obtain ⟨A7, c7, rfl⟩ := Kd.R_slice hI
  obtain ⟨A10, c10, rfl⟩ := Kd.R_slice hJ
  obtain ⟨A8, c8, rfl⟩ := Kd.R_slice hO
  obtain ⟨A11, c11, rfl⟩ := Kd.R_slice hP
  have HI := Aside0.mk hI
  have HJ := Aside0.mk hJ
  have HO := Aside0.mk hO
  have HP := Aside0.mk hP
  have HIN := Aside0.mk hIN
  have HBB := Aside0.mk hBB
  have HSZ := Aside0.mk hSZ
  clear hI hJ hO hP hIN hBB hSZ
  by_cases h0 : b.length = 0
  · have p1 : decide ((0 : Int) < (b.length : Int)) = false := decide_eq_false (by omega)
    have p2 : decide (0 < b.length) = false := decide_eq_false (by omega)
    go_upto_region 9 with fail
    have HI9 := HI
    have HJ9 := HJ
    have HO9 := HO
    have HP9 := HP
    have HIN9 := HIN
    have HBB9 := HBB
    have HSZ9 := HSZ
    have HOP9 := Aside0.mk (fun A c W (h1 : Kd.C (Kd.int .u8) W A b.length b) (h2 : b.length ≤ c) => opened_ A c b W h1 h2 (by omega) hb)
    have HLN9 : Aside0 (b.length = b.length) := ⟨rfl⟩
    have HOL9 := Aside0.mk (opn_len b hb)
    generalize opn b = R9 at HOP9 HOL9
    clear HI HJ HO HP HIN HBB HSZ p1 p2 h0
    go_upto_region 10 with (go_at_call 13; refine (HOP9.out _ c5 _ (Kd.R_reads' HIN9.out).2.2 hcl).mono ?_; rintro e w6 ⟨v13, v14, rfl, hr7, hr8, hb6⟩; have HK6 : Aside0 (Rw (Kd.int .u8) 5 w w6 w3.heap.size w6.heap.size v13 R9.1) := ⟨(Rw.new (w := w) hr7 HBB9.out.size).lower HSZ9.out⟩; have HQ6 : Aside0 (Rw Kd.string 9 w w6 w3.heap.size w6.heap.size v14 R9.2.1) := ⟨(Rw.new (w := w) hr8 HBB9.out.size).lower HSZ9.out⟩; have HI6 := Aside0.mk (HI9.out.step hb6); have HO6 := Aside0.mk (HO9.out.step hb6); have HJ6 := Aside0.mk (HJ9.out.step hb6); have HP6 := Aside0.mk (HP9.out.step hb6); have HIN6 := Aside0.mk (HIN9.out.step hb6); have HB6 := Aside0.mk (below_step HBB9.out hb6); have HZ6 := Aside0.mk (Nat.le_trans HSZ9.out hb6.size); clear hr7 hr8 hb6)
    clear HI9 HJ9 HO9 HP9 HIN9 HOP9
    obtain ⟨A13, c13, rfl⟩ := Kd.R_slice HK6.out
    obtain ⟨A14, c14, rfl⟩ := Kd.R_slice HQ6.out
    go_upto_region 12 with (first
      | (go_at_call 16; refine (PRelaySealed.portageref0_SameBytes.calls _ A7 c7 R.1 A10 c10 R.1 true _ (Kd.R_reads' HI6.out).2.2 (Kd.R_reads' HI6.out).2.1 (Kd.R_reads' HJ6.out).2.2 (Kd.R_reads' HJ6.out).2.1 HSB.out).mono ?_; rintro e w7 ⟨rfl, ⟨⟨m7, rfl⟩⟩⟩)
      | (go_at_call 10; refine (PRelaySealed.portageref0_SameTexts.calls _ A8 c8 R.2.1 A11 c11 R.2.1 true _ (Kd.C_drewN (Kd.R_reads' HO6.out).2.2 _) (Kd.R_reads' HO6.out).2.1 (Kd.C_drewN (Kd.R_reads' HP6.out).2.2 _) (Kd.R_reads' HP6.out).2.1 HST.out).mono ?_; rintro e w8 ⟨rfl, ⟨⟨m8, rfl⟩⟩⟩))
    go_wp2_with fail
    generalize m7 + m8 = M2
    have hbV : Below w6.heap.size w6 ((w6.drewN M2).alloc (.cells #[.slice A8 R.2.1.length c8, .slice A11 R.2.1.length c11, .slice A14 R9.2.1.length c14] 22)) := below_alloc (pw_below_drewN (Below.refl _ _) M2) _
    have hbN : ((w6.drewN M2).alloc (.cells #[.slice A8 R.2.1.length c8, .slice A11 R.2.1.length c11, .slice A14 R9.2.1.length c14] 22)).heap[w6.heap.size]? = some (.cells #[.slice A8 R.2.1.length c8, .slice A11 R.2.1.length c11, .slice A14 R9.2.1.length c14] 22 (0, 0)) := blk_new (w6.drewN M2) _
    generalize (w6.drewN M2).alloc (.cells #[.slice A8 R.2.1.length c8, .slice A11 R.2.1.length c11, .slice A14 R9.2.1.length c14] 22) = V at hbV hbN ⊢
    have HBV := Aside0.mk (below_step HB6.out hbV)
    have HIV := Aside0.mk (HI6.out.step hbV)
    have HJV := Aside0.mk (HJ6.out.step hbV)
    have HKV := Aside0.mk (HK6.out.step hbV)
    have HINV := Aside0.mk (HIN6.out.step hbV)
    have HOV := Aside0.mk (HO6.out.step hbV)
    have HPV := Aside0.mk (HP6.out.step hbV)
    have HQV := Aside0.mk (HQ6.out.step hbV)
    have HZV := Aside0.mk hbV.size
    have HGv : Aside0 (Given Kd.string 9 w V (vs3 (A8, R.2.1.length, c8) (A11, R.2.1.length, c11) (A14, R9.2.1.length, c14)) 3 (of3 R.2.1 R.2.1 R9.2.1)) :=
      ⟨given_of rfl (of3 w1.heap.size w2.heap.size w3.heap.size) (of3 w2.heap.size w3.heap.size w6.heap.size) HBV.out (fun j hj => by
        match j, hj with
        | 0, _ => exact HOV.out
        | 1, _ => exact HPV.out
        | 2, _ => exact HQV.out) (fun i hi j hj hne => by
        have z2 := HZ2.out
        have z3 := HZ3.out
        have z6 := HZ6.out
        rcases (by omega : i = 0 ∨ i = 1 ∨ i = 2) with rfl | rfl | rfl <;> rcases (by omega : j = 0 ∨ j = 1 ∨ j = 2) with rfl | rfl | rfl <;> simp only [of3] <;> omega)⟩
    have HNo : Aside0 (∀ k, Own (vs3 (A8, R.2.1.length, c8) (A11, R.2.1.length, c11) (A14, R9.2.1.length, c14)) 3 k → k < w6.heap.size ∧ ∃ cells, V.heap[k]? = some (.cells cells 9 (0, 0))) := ⟨fun k hk => by
      have z3 := HZ3.out
      have z6 := HZ6.out
      rcases own3 hk with h | h | h
      · exact ⟨by have := (HOV.out.1 k h).2; omega, Kd.R_typed HOV.out k h⟩
      · exact ⟨by have := (HPV.out.1 k h).2; omega, Kd.R_typed HPV.out k h⟩
      · exact ⟨by have := (HQV.out.1 k h).2; omega, Kd.R_typed HQV.out k h⟩⟩
    have HOL1 := Aside0.mk HOL.out.2
    have HOL2 := Aside0.mk HOL9.out.2
    have HBN := Aside0.mk hbN
    clear hbN hbV
    refine (DeskApart.apartTexts_calls (some ⟨w6.heap.size, 0, none⟩) 3 3 (vs3 (A8, R.2.1.length, c8) (A11, R.2.1.length, c11) (A14, R9.2.1.length, c14)) (fun j => (of3 R.2.1 R.2.1 R9.2.1 j).length) (of3 R.2.1 R.2.1 R9.2.1) w V HGv.out (fun _ _ => rfl)
      (fun W' hk => outer_C (l := [(A8, R.2.1.length, c8), (A11, R.2.1.length, c11), (A14, R9.2.1.length, c14)]) (blk_kept HBN.out hk (fun h => by have := (HNo.out _ h).1; omega)) (by simp))
      (fun j hj => by
        have l1 := HOL1.out
        have l2 := HOL2.out
        rcases (by omega : j = 0 ∨ j = 1 ∨ j = 2) with rfl | rfl | rfl <;> simp only [of3] <;> omega) (by decide)).mono ?_
    rintro e w11 ⟨rfl, hb11, hk11⟩
    have HI1 := Aside0.mk (HIV.out.typed hk11 (fun k h => (HNo.out k h).2))
    have HJ1 := Aside0.mk (HJV.out.typed hk11 (fun k h => (HNo.out k h).2))
    have HK1 := Aside0.mk (HKV.out.typed hk11 (fun k h => (HNo.out k h).2))
    have HIN1 := Aside0.mk (HINV.out.typed hk11 (fun k h => (HNo.out k h).2))
    have HB1' := Aside0.mk hb11
    have HZ11 := Aside0.mk (Nat.le_trans HZV.out hk11.1)
    clear hb11 hk11 HGv HNo HIV HJV HKV HINV HOV HPV HQV HBN
    go_wp2_with fail
    have hbU : Below w11.heap.size w11 (w11.alloc (.cells #[.slice A7 R.1.length c7, .slice A10 R.1.length c10, .slice A13 R9.1.length c13, .slice A5 b.length c5] 33)) := below_alloc (Below.refl _ _) _
    have hbN : (w11.alloc (.cells #[.slice A7 R.1.length c7, .slice A10 R.1.length c10, .slice A13 R9.1.length c13, .slice A5 b.length c5] 33)).heap[w11.heap.size]? = some (.cells #[.slice A7 R.1.length c7, .slice A10 R.1.length c10, .slice A13 R9.1.length c13, .slice A5 b.length c5] 33 (0, 0)) := blk_new w11 _
    generalize w11.alloc (.cells #[.slice A7 R.1.length c7, .slice A10 R.1.length c10, .slice A13 R9.1.length c13, .slice A5 b.length c5] 33) = U at hbU hbN ⊢
    have HGu : Aside0 (Given (Kd.int .u8) 5 w U (vs4 (A7, R.1.length, c7) (A10, R.1.length, c10) (A13, R9.1.length, c13) (A5, b.length, c5)) 4 (of4 R.1 R.1 R9.1 b)) :=
      ⟨given_of rfl (of4 w1.heap.size w2.heap.size w3.heap.size w.heap.size) (of4 w2.heap.size w3.heap.size w6.heap.size w1.heap.size) (below_step HB1'.out hbU) (fun j hj => by
        match j, hj with
        | 0, _ => exact HI1.out.step hbU
        | 1, _ => exact HJ1.out.step hbU
        | 2, _ => exact HK1.out.step hbU
        | 3, _ => exact HIN1.out.step hbU) (fun i hi j hj hne => by
        have z2 := HZ2.out
        have z3 := HZ3.out
        have z6 := HZ6.out
        rcases (by omega : i = 0 ∨ i = 1 ∨ i = 2 ∨ i = 3) with rfl | rfl | rfl | rfl <;> rcases (by omega : j = 0 ∨ j = 1 ∨ j = 2 ∨ j = 3) with rfl | rfl | rfl | rfl <;> simp only [of4] <;> omega)⟩
    have HNu : Aside0 (∀ k, Own (vs4 (A7, R.1.length, c7) (A10, R.1.length, c10) (A13, R9.1.length, c13) (A5, b.length, c5)) 4 k → k < w11.heap.size) := ⟨fun k hk => by
      rcases own4 hk with h | h | h | h
      · exact Kd.R_lt HI1.out k h
      · exact Kd.R_lt HJ1.out k h
      · exact Kd.R_lt HK1.out k h
      · exact Kd.R_lt HIN1.out k h⟩
    have HOL3 := Aside0.mk HOL.out.1
    have HOL4 := Aside0.mk HOL9.out.1
    have HBN := Aside0.mk hbN
    clear hbN hbU
    refine (apart_calls (some ⟨w11.heap.size, 0, none⟩) 4 4 (vs4 (A7, R.1.length, c7) (A10, R.1.length, c10) (A13, R9.1.length, c13) (A5, b.length, c5)) (fun j => (of4 R.1 R.1 R9.1 b j).length) (of4 R.1 R.1 R9.1 b) w U HGu.out (fun _ _ => rfl)
      (fun W' hk => outer_C (l := [(A7, R.1.length, c7), (A10, R.1.length, c10), (A13, R9.1.length, c13), (A5, b.length, c5)]) (blk_kept HBN.out hk (fun h => by have := HNu.out _ h; omega)) (by simp))
      (fun j hj => by
        have l1 := HOL3.out
        have l2 := HOL4.out
        have l3 := HLN9.out
        rcases (by omega : j = 0 ∨ j = 1 ∨ j = 2 ∨ j = 3) with rfl | rfl | rfl | rfl <;> simp only [of4] <;> omega) (by decide)).mono ?_
    rintro e w12 ⟨rfl, hb12, hk12⟩
    have HB12 := Aside0.mk hb12
    clear hb12 hk12 HGu HNu HI1 HJ1 HK1 HIN1
    go_wp2_with fail
    go_ret
    exact ⟨rfl, HB12.out⟩
  · have h0' : 0 < b.length := by omega
    have p1 : decide ((0 : Int) < (b.length : Int)) = true := decide_eq_true (by omega)
    have p2 : decide (0 < b.length) = true := decide_eq_true (by omega)
    obtain ⟨p, hp, hpk⟩ := pick_f at_ b.length h0' (by omega)
    have HPK := Aside0.mk hpk
    clear hpk
    obtain ⟨gl, cap, heq, hg1, hg2, cells, hcells⟩ := Kd.R_form HIN.out h0'
    injection heq with heq hq1 hq2
    subst heq
    have HGL := Aside0.mk (HIN.out.1 gl rfl)
    have hci := (Kd.R_celln 0 HIN.out (p : Int) (by omega) (by omega)).1
    have hfz := blk_frozen hcells p
    simp only [Int.toNat_natCast] at hci
    have hbx := bytes_rd hb p
    obtain ⟨x, hx⟩ : ∃ x, x = rd b (p : Int) := ⟨_, rfl⟩
    have hci2 : W4.cell? ⟨gl, p, none⟩ = some (.int .u8 x) := by rw [hx]; exact hci
    rw [← hx] at hbx
    have HPUT := Aside0.mk (fun m y => (Kd.R_putg (Kd.R_drewN HIN.out m) (p : Int) y).1)
    simp only [Int.toNat_natCast] at HPUT
    have q1 : (0 ≤ (p : Int)) = True := by simp
    have q2 : ((p : Int) < (b.length : Int)) = True := by simp; omega
    clear hci hx hcells hg1 hg2 hq2
    go_upto_region 9 with (go_at_call 15; refine (PRelayOpens.portagekit_Pick.calls at_ _ (p : Int) _ HPK.out).mono ?_; rintro e w5 ⟨rfl, ⟨⟨m5, rfl⟩⟩⟩)
    show Code.wp _ _ _ _ ((W4.drewN ?M).setCell _ _)
    generalize ?M = M
    have hIN := HPUT.out M ((x + 1) % 256)
    have hgl := HGL.out
    have hI := (HI.out.step (pw_below_drewN (Below.refl _ _) M)).far (p := ⟨gl, p, none⟩) (by show gl < _; omega) (.int .u8 ((x + 1) % 256))
    have hJ := (HJ.out.step (pw_below_drewN (Below.refl _ _) M)).far (p := ⟨gl, p, none⟩) (by show gl < _; have := HZ2.out; omega) (.int .u8 ((x + 1) % 256))
    have hO := (HO.out.step (pw_below_drewN (Below.refl _ _) M)).far (p := ⟨gl, p, none⟩) (by show gl < _; omega) (.int .u8 ((x + 1) % 256))
    have hP := (HP.out.step (pw_below_drewN (Below.refl _ _) M)).far (p := ⟨gl, p, none⟩) (by show gl < _; have := HZ2.out; omega) (.int .u8 ((x + 1) % 256))
    have hBB : Below w.heap.size w ((W4.drewN M).setCell ⟨gl, p, none⟩ (.int .u8 ((x + 1) % 256))) := below_set (pw_below_drewN HBB.out M) hgl.1
    have hSZ : w3.heap.size ≤ ((W4.drewN M).setCell ⟨gl, p, none⟩ (.int .u8 ((x + 1) % 256))).heap.size := by have h1 := HSZ.out; simpa [World.setCell] using h1
    generalize (W4.drewN M).setCell ⟨gl, p, none⟩ (.int .u8 ((x + 1) % 256)) = W9 at hI hJ hO hP hIN hBB hSZ ⊢
    have HI9 := Aside0.mk hI
    have HJ9 := Aside0.mk hJ
    have HO9 := Aside0.mk hO
    have HP9 := Aside0.mk hP
    have HBB9 := Aside0.mk hBB
    have HSZ9 := Aside0.mk hSZ
    have hb9 : Bytes (b.set p ((x + 1) % 256)) := fun y hy => by
      rcases List.mem_or_eq_of_mem_set hy with h | h
      · exact hb y h
      · omega
    have HLN9 : Aside0 ((b.set p ((x + 1) % 256)).length = b.length) := ⟨List.length_set⟩
    generalize b.set p ((x + 1) % 256) = b9 at hIN hb9 HLN9
    have hln := HLN9.out
    have HOP9 := Aside0.mk (fun A c W (h1 : Kd.C (Kd.int .u8) W A b9.length b9) (h2 : b.length ≤ c) => (by have h3 := opened_ A c b9 W h1 (by omega) (by omega) hb9; rw [hln] at h3; exact h3 : Calls Try.prog 13 #[.slice A b.length c] W (OpenedB W (opn b9))))
    have HOL9 := Aside0.mk (opn_len b9 hb9)
    generalize opn b9 = R9 at HOP9 HOL9
    have HIN9 : Aside0 (Rw (Kd.int .u8) 5 w W9 w.heap.size w1.heap.size (.slice (some ⟨gl, 0, none⟩) b.length c5) b9) := ⟨hIN⟩
    clear hI hJ hO hP hIN hBB hSZ hgl HI HJ HO HP HIN HBB HSZ p1 p2 h0 h0' q1 q2 hci2 hfz HPUT HPK HGL hbx hb9 hln
    go_upto_region 10 with (go_at_call 13; refine (HOP9.out _ c5 _ (Kd.R_reads' HIN9.out).2.2 hcl).mono ?_; rintro e w6 ⟨v13, v14, rfl, hr7, hr8, hb6⟩; have HK6 : Aside0 (Rw (Kd.int .u8) 5 w w6 w3.heap.size w6.heap.size v13 R9.1) := ⟨(Rw.new (w := w) hr7 HBB9.out.size).lower HSZ9.out⟩; have HQ6 : Aside0 (Rw Kd.string 9 w w6 w3.heap.size w6.heap.size v14 R9.2.1) := ⟨(Rw.new (w := w) hr8 HBB9.out.size).lower HSZ9.out⟩; have HI6 := Aside0.mk (HI9.out.step hb6); have HO6 := Aside0.mk (HO9.out.step hb6); have HJ6 := Aside0.mk (HJ9.out.step hb6); have HP6 := Aside0.mk (HP9.out.step hb6); have HIN6 := Aside0.mk (HIN9.out.step hb6); have HB6 := Aside0.mk (below_step HBB9.out hb6); have HZ6 := Aside0.mk (Nat.le_trans HSZ9.out hb6.size); clear hr7 hr8 hb6)
    clear HI9 HJ9 HO9 HP9 HIN9 HOP9
    obtain ⟨A13, c13, rfl⟩ := Kd.R_slice HK6.out
    obtain ⟨A14, c14, rfl⟩ := Kd.R_slice HQ6.out
    go_upto_region 12 with (first
      | (go_at_call 16; refine (PRelaySealed.portageref0_SameBytes.calls _ A7 c7 R.1 A10 c10 R.1 true _ (Kd.R_reads' HI6.out).2.2 (Kd.R_reads' HI6.out).2.1 (Kd.R_reads' HJ6.out).2.2 (Kd.R_reads' HJ6.out).2.1 HSB.out).mono ?_; rintro e w7 ⟨rfl, ⟨⟨m7, rfl⟩⟩⟩)
      | (go_at_call 10; refine (PRelaySealed.portageref0_SameTexts.calls _ A8 c8 R.2.1 A11 c11 R.2.1 true _ (Kd.C_drewN (Kd.R_reads' HO6.out).2.2 _) (Kd.R_reads' HO6.out).2.1 (Kd.C_drewN (Kd.R_reads' HP6.out).2.2 _) (Kd.R_reads' HP6.out).2.1 HST.out).mono ?_; rintro e w8 ⟨rfl, ⟨⟨m8, rfl⟩⟩⟩))
    go_wp2_with fail
    generalize m7 + m8 = M2
    have hbV : Below w6.heap.size w6 ((w6.drewN M2).alloc (.cells #[.slice A8 R.2.1.length c8, .slice A11 R.2.1.length c11, .slice A14 R9.2.1.length c14] 22)) := below_alloc (pw_below_drewN (Below.refl _ _) M2) _
    have hbN : ((w6.drewN M2).alloc (.cells #[.slice A8 R.2.1.length c8, .slice A11 R.2.1.length c11, .slice A14 R9.2.1.length c14] 22)).heap[w6.heap.size]? = some (.cells #[.slice A8 R.2.1.length c8, .slice A11 R.2.1.length c11, .slice A14 R9.2.1.length c14] 22 (0, 0)) := blk_new (w6.drewN M2) _
    generalize (w6.drewN M2).alloc (.cells #[.slice A8 R.2.1.length c8, .slice A11 R.2.1.length c11, .slice A14 R9.2.1.length c14] 22) = V at hbV hbN ⊢
    have HBV := Aside0.mk (below_step HB6.out hbV)
    have HIV := Aside0.mk (HI6.out.step hbV)
    have HJV := Aside0.mk (HJ6.out.step hbV)
    have HKV := Aside0.mk (HK6.out.step hbV)
    have HINV := Aside0.mk (HIN6.out.step hbV)
    have HOV := Aside0.mk (HO6.out.step hbV)
    have HPV := Aside0.mk (HP6.out.step hbV)
    have HQV := Aside0.mk (HQ6.out.step hbV)
    have HZV := Aside0.mk hbV.size
    have HGv : Aside0 (Given Kd.string 9 w V (vs3 (A8, R.2.1.length, c8) (A11, R.2.1.length, c11) (A14, R9.2.1.length, c14)) 3 (of3 R.2.1 R.2.1 R9.2.1)) :=
      ⟨given_of rfl (of3 w1.heap.size w2.heap.size w3.heap.size) (of3 w2.heap.size w3.heap.size w6.heap.size) HBV.out (fun j hj => by
        match j, hj with
        | 0, _ => exact HOV.out
        | 1, _ => exact HPV.out
        | 2, _ => exact HQV.out) (fun i hi j hj hne => by
        have z2 := HZ2.out
        have z3 := HZ3.out
        have z6 := HZ6.out
        rcases (by omega : i = 0 ∨ i = 1 ∨ i = 2) with rfl | rfl | rfl <;> rcases (by omega : j = 0 ∨ j = 1 ∨ j = 2) with rfl | rfl | rfl <;> simp only [of3] <;> omega)⟩
    have HNo : Aside0 (∀ k, Own (vs3 (A8, R.2.1.length, c8) (A11, R.2.1.length, c11) (A14, R9.2.1.length, c14)) 3 k → k < w6.heap.size ∧ ∃ cells, V.heap[k]? = some (.cells cells 9 (0, 0))) := ⟨fun k hk => by
      have z3 := HZ3.out
      have z6 := HZ6.out
      rcases own3 hk with h | h | h
      · exact ⟨by have := (HOV.out.1 k h).2; omega, Kd.R_typed HOV.out k h⟩
      · exact ⟨by have := (HPV.out.1 k h).2; omega, Kd.R_typed HPV.out k h⟩
      · exact ⟨by have := (HQV.out.1 k h).2; omega, Kd.R_typed HQV.out k h⟩⟩
    have HOL1 := Aside0.mk HOL.out.2
    have HOL2 := Aside0.mk HOL9.out.2
    have HBN := Aside0.mk hbN
    clear hbN hbV
    refine (DeskApart.apartTexts_calls (some ⟨w6.heap.size, 0, none⟩) 3 3 (vs3 (A8, R.2.1.length, c8) (A11, R.2.1.length, c11) (A14, R9.2.1.length, c14)) (fun j => (of3 R.2.1 R.2.1 R9.2.1 j).length) (of3 R.2.1 R.2.1 R9.2.1) w V HGv.out (fun _ _ => rfl)
      (fun W' hk => outer_C (l := [(A8, R.2.1.length, c8), (A11, R.2.1.length, c11), (A14, R9.2.1.length, c14)]) (blk_kept HBN.out hk (fun h => by have := (HNo.out _ h).1; omega)) (by simp))
      (fun j hj => by
        have l1 := HOL1.out
        have l2 := HOL2.out
        rcases (by omega : j = 0 ∨ j = 1 ∨ j = 2) with rfl | rfl | rfl <;> simp only [of3] <;> omega) (by decide)).mono ?_
    rintro e w11 ⟨rfl, hb11, hk11⟩
    have HI1 := Aside0.mk (HIV.out.typed hk11 (fun k h => (HNo.out k h).2))
    have HJ1 := Aside0.mk (HJV.out.typed hk11 (fun k h => (HNo.out k h).2))
    have HK1 := Aside0.mk (HKV.out.typed hk11 (fun k h => (HNo.out k h).2))
    have HIN1 := Aside0.mk (HINV.out.typed hk11 (fun k h => (HNo.out k h).2))
    have HB1' := Aside0.mk hb11
    have HZ11 := Aside0.mk (Nat.le_trans HZV.out hk11.1)
    clear hb11 hk11 HGv HNo HIV HJV HKV HINV HOV HPV HQV HBN
    go_wp2_with fail
    have hbU : Below w11.heap.size w11 (w11.alloc (.cells #[.slice A7 R.1.length c7, .slice A10 R.1.length c10, .slice A13 R9.1.length c13, .slice (some ⟨gl, 0, none⟩) b.length c5] 33)) := below_alloc (Below.refl _ _) _
    have hbN : (w11.alloc (.cells #[.slice A7 R.1.length c7, .slice A10 R.1.length c10, .slice A13 R9.1.length c13, .slice (some ⟨gl, 0, none⟩) b.length c5] 33)).heap[w11.heap.size]? = some (.cells #[.slice A7 R.1.length c7, .slice A10 R.1.length c10, .slice A13 R9.1.length c13, .slice (some ⟨gl, 0, none⟩) b.length c5] 33 (0, 0)) := blk_new w11 _
    generalize w11.alloc (.cells #[.slice A7 R.1.length c7, .slice A10 R.1.length c10, .slice A13 R9.1.length c13, .slice (some ⟨gl, 0, none⟩) b.length c5] 33) = U at hbU hbN ⊢
    have HGu : Aside0 (Given (Kd.int .u8) 5 w U (vs4 (A7, R.1.length, c7) (A10, R.1.length, c10) (A13, R9.1.length, c13) ((some ⟨gl, 0, none⟩), b.length, c5)) 4 (of4 R.1 R.1 R9.1 b9)) :=
      ⟨given_of rfl (of4 w1.heap.size w2.heap.size w3.heap.size w.heap.size) (of4 w2.heap.size w3.heap.size w6.heap.size w1.heap.size) (below_step HB1'.out hbU) (fun j hj => by
        match j, hj with
        | 0, _ => exact HI1.out.step hbU
        | 1, _ => exact HJ1.out.step hbU
        | 2, _ => exact HK1.out.step hbU
        | 3, _ => exact HIN1.out.step hbU) (fun i hi j hj hne => by
        have z2 := HZ2.out
        have z3 := HZ3.out
        have z6 := HZ6.out
        rcases (by omega : i = 0 ∨ i = 1 ∨ i = 2 ∨ i = 3) with rfl | rfl | rfl | rfl <;> rcases (by omega : j = 0 ∨ j = 1 ∨ j = 2 ∨ j = 3) with rfl | rfl | rfl | rfl <;> simp only [of4] <;> omega)⟩
    have HNu : Aside0 (∀ k, Own (vs4 (A7, R.1.length, c7) (A10, R.1.length, c10) (A13, R9.1.length, c13) ((some ⟨gl, 0, none⟩), b.length, c5)) 4 k → k < w11.heap.size) := ⟨fun k hk => by
      rcases own4 hk with h | h | h | h
      · exact Kd.R_lt HI1.out k h
      · exact Kd.R_lt HJ1.out k h
      · exact Kd.R_lt HK1.out k h
      · exact Kd.R_lt HIN1.out k h⟩
    have HOL3 := Aside0.mk HOL.out.1
    have HOL4 := Aside0.mk HOL9.out.1
    have HBN := Aside0.mk hbN
    clear hbN hbU
    refine (apart_calls (some ⟨w11.heap.size, 0, none⟩) 4 4 (vs4 (A7, R.1.length, c7) (A10, R.1.length, c10) (A13, R9.1.length, c13) ((some ⟨gl, 0, none⟩), b.length, c5)) (fun j => (of4 R.1 R.1 R9.1 b9 j).length) (of4 R.1 R.1 R9.1 b9) w U HGu.out (fun _ _ => rfl)
      (fun W' hk => outer_C (l := [(A7, R.1.length, c7), (A10, R.1.length, c10), (A13, R9.1.length, c13), ((some ⟨gl, 0, none⟩), b.length, c5)]) (blk_kept HBN.out hk (fun h => by have := HNu.out _ h; omega)) (by simp))
      (fun j hj => by
        have l1 := HOL3.out
        have l2 := HOL4.out
        have l3 := HLN9.out
        rcases (by omega : j = 0 ∨ j = 1 ∨ j = 2 ∨ j = 3) with rfl | rfl | rfl | rfl <;> simp only [of4] <;> omega) (by decide)).mono ?_
    rintro e w12 ⟨rfl, hb12, hk12⟩
    have HB12 := Aside0.mk hb12
    clear hb12 hk12 HGu HNu HI1 HJ1 HK1 HIN1
    go_wp2_with fail
    go_ret
    exact ⟨rfl, HB12.out⟩
end Go.Proofs.Ytcgajjaaiablkaa.ROLaw
