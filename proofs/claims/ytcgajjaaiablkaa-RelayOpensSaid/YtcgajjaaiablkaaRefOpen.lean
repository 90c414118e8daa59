/- Relay's reference: Open. -/
import Derived.Test.YtcgajjaaiablkaaROpen
import Derived.Test.YtcgajjaaiablkaaRefAhead
import Derived.Test.YtcgajjaaiablkaaRefText
import Derived.Test.YtcgajjaaiablkaaRefRaw
namespace Go.Proofs.Ytcgajjaaiablkaa.RefOpen
open Go.RowKit Go.Proofs.YtcgajjaaiablkaaW.PrintWords Go.Proofs.YtcgajjaaiablkaaW.PrintLast Go.Proofs.YtcgajjaaiablkaaW.PrintMore
open Go.Proofs.Ytcgajjaaiablkaa.PRelaySealed Go.Proofs.Ytcgajjaaiablkaa.Reader Go.Proofs.Ytcgajjaaiablkaa.RRaw Go.Proofs.Ytcgajjaaiablkaa.RCount Go.Proofs.Ytcgajjaaiablkaa.RText Go.Proofs.Ytcgajjaaiablkaa.RefRd Go.Proofs.Ytcgajjaaiablkaa.RHd Go.Proofs.Ytcgajjaaiablkaa.RHead Go.Proofs.Ytcgajjaaiablkaa.RHead2 Go.Proofs.Ytcgajjaaiablkaa.ROpen
set_option linter.unusedVariables false
set_option linter.unusedSimpArgs false

/-- What is laid behind a world leaves the reader where it stands. -/
theorem rr_app {w0 ws W w1 : World} {g c : Nat} {A : Option Addr} {bs : List Int} {a e : Int} (h : Rr w0 ws W g A c bs a e) (hg : g < ws.heap.size) (h0 : w0.heap.size ≤ ws.heap.size) (hb : Below ws.heap.size W w1) : Rr w0 ws w1 g A c bs a e :=
  ⟨(hb.block g hg).trans h.blk, h.ge, h.row, h.room, h.below.trans (hb.mono h0), Nat.le_trans h.keep.1 hb.size, fun i hi hne hr => (hb.block i hi).trans (h.keep.2 i hi hne hr)⟩
theorem rr_trans {w0 ws W w1 : World} {g c : Nat} {A : Option Addr} {bs : List Int} {a e a' e' : Int} (h : Rr w0 ws W g A c bs a e) (k : Rr w0 W w1 g A c bs a' e') : Rr w0 ws w1 g A c bs a' e' := ⟨k.blk, k.ge, k.row, k.room, k.below, h.keep.trans k.keep (.inl rfl)⟩
set_option maxHeartbeats 8000000 in
set_option maxRecDepth 100000 in
theorem ropen_ (A : Option Addr) (c : Nat) (b : List Int) (w : World) (hC : Kd.C (Kd.int .u8) w A b.length b) (hc : b.length ≤ c) (hl : b.length ≤ 140737488355232) (hb : Bytes b) :
    Calls Try.prog 30 #[.slice A b.length c] w (Opened w (opn b)) := by
  have HH := Aside0.mk (RefAhead.ahead_ A c b w hC hc hl)
  have HBE := Aside0.mk (fun D (W : World) (h : Below w.heap.size w W) (h2 : portageref30_behind.f (b.length - 44 + 1) b (44 : Nat) = some D) => portageref30_behind.calls _ A c b _ D W (Kd.C_below hC h) hc h2)
  clear hC
  obtain ⟨R, hR⟩ : ∃ R, R = opn b := ⟨_, rfl⟩
  rw [← hR]
  go_enter Try.func30, Try.ntmps30
  go_upto_region 2 with (go_at_call 57; refine HH.out.mono ?_; rintro e w1 ⟨rfl, hb1⟩; have HB1 := Aside0.mk hb1; clear hb1)
  unfold opn at hR
  by_cases hh : hd b = 0
  · rw [if_neg (by simpa using hh)] at hR
    have h44 : 44 ≤ b.length := by
      clear HH HBE HB1
      unfold hd at hh
      repeat' split at hh
      all_goals first | omega | simp at hh
    rw [hh]
    rw [body_drop b 44 h44] at hR
    have hBF := behind_f b 44 h44 (by omega)
    have hlD0 : (b.drop 44).length ≤ 140737488355232 := by rw [List.length_drop]; omega
    have hbD0 := bytes_drop hb 44
    obtain ⟨D, hD⟩ : ∃ D, D = b.drop 44 := ⟨_, rfl⟩
    rw [← hD] at hR hBF hlD0 hbD0
    have HBF := Aside0.mk (fun W h => HBE.out D W h hBF)
    clear hD hBF HBE hh hb hl
    have hl2 : D.length ≤ 140737488355328 := by omega
    go_upto_region 5 with (first
      | (go_at_call 59; refine (HBF.out _ HB1.out).mono ?_; rintro e w2 ⟨v2, rfl, hR2, hb2⟩; obtain ⟨A2, c2, rfl⟩ := Kd.R_slice hR2; have HC2 := Aside0.mk (Kd.R_reads' hR2).2; have HB2 := Aside0.mk (below_then HB1.out HB1.out.size hb2); clear hR2 hb2)
      | (go_at_call 58; refine (read_ A2 c2 D w2 HC2.out.2 HC2.out.1 hl2).mono ?_; rintro e w3 ⟨w4, g, A4, c4, rfl, hr, h1, h2⟩; have HR := Aside0.mk hr; have HB3 := Aside0.mk (below_then HB2.out HB2.out.size h2); have HB4 := Aside0.mk (below_then HB2.out HB2.out.size h1); clear hr h1 h2))
    have HCN := Aside0.mk (fun w0 W (h : Rr w4 w0 W g A4 c4 D (0 : Nat) 0) => RefRd.count g A4 c4 D 0 67108864 0 w4 w0 W h hbD0 (by omega) hl2 (by omega))
    have h1 := countR_at D 0 67108864 0 hbD0 (by omega) (by omega)
    have E1 : countR D 0 67108864 0 = cn D 0 := rfl
    rw [E1] at h1 HCN
    clear E1
    have h2 := rawR_at D (cn D 0).2.1 (cn D 0).1.toNat (cn D 0).2.2 h1.1
    have E2 : rawR D (cn D 0).2.1 (cn D 0).1.toNat (cn D 0).2.2 = im D 0 := rfl
    have HRW := Aside0.mk (fun w0 W (h : Rr w4 w0 W g A4 c4 D (cn D 0).2.1 (cn D 0).2.2) => RefRaw.raw_ g A4 c4 D (cn D 0).2.1 (cn D 0).1.toNat (cn D 0).2.2 w4 w0 W h h1.1 hl2)
    rw [E2] at h2 HRW
    clear E2
    have h3 := countR_at D (im D 0).2.1 1048576 (im D 0).2.2 hbD0 h2.1 (by omega)
    have E3 : countR D (im D 0).2.1 1048576 (im D 0).2.2 = kn D 0 := rfl
    have HKN := Aside0.mk (fun w0 W (h : Rr w4 w0 W g A4 c4 D (im D 0).2.1 (im D 0).2.2) => RefRd.count g A4 c4 D (im D 0).2.1 1048576 (im D 0).2.2 w4 w0 W h hbD0 h2.1 hl2 (by omega))
    rw [E3] at h3 HKN
    clear E3
    have E4 : texts D (kn D 0).1.toNat (kn D 0).2.1 (kn D 0).2.2 [] = tx D 0 := rfl
    obtain ⟨TX, hTX⟩ : ∃ T, T = tx D 0 := ⟨_, rfl⟩
    have E5 : body D 0 = if endR D TX.2.1 TX.2.2 ≠ 0 then ([], [], endR D TX.2.1 TX.2.2) else ((im D 0).1, TX.1, 0) := by rw [hTX]; rfl
    rw [← hTX] at E4
    rw [E5] at hR
    clear E5 hTX
    obtain ⟨CN, hCN⟩ : ∃ x, x = cn D 0 := ⟨_, rfl⟩
    obtain ⟨IM, hIM⟩ : ∃ x, x = im D 0 := ⟨_, rfl⟩
    obtain ⟨KN, hKN⟩ : ∃ x, x = kn D 0 := ⟨_, rfl⟩
    rw [← hCN] at h1 HCN HRW
    rw [← hIM] at h2 HRW HKN hR
    rw [← hKN] at h3 HKN E4
    clear hCN hIM hKN
    obtain ⟨n, hn⟩ : ∃ n : Nat, CN.1 = n := ⟨CN.1.toNat, by omega⟩
    obtain ⟨k, hk⟩ : ∃ k : Nat, KN.1 = k := ⟨KN.1.toNat, by omega⟩
    rw [hn] at HCN HRW
    rw [hk] at HKN h3 E4
    rw [Int.toNat_natCast] at HRW E4
    have HE4 := Aside0.mk E4
    have HI2 := Aside0.mk h2.1
    have HK3 := Aside0.mk h3.1
    have hk6 : k ≤ 1048576 := by omega
    have HRR := Aside0.mk hR
    clear hR h1 h2 h3 hn hk E4
    go_upto_region 6 with (go_at_call 60; refine (HCN.out _ _ HR.out).mono ?_; rintro e w5 ⟨rfl, hm⟩; have HM5 := Aside0.mk hm; clear hm)
    go_upto_region 7 with (go_at_call 61; refine (HRW.out _ _ HM5.out).mono ?_; rintro e w6 ⟨vi, rfl, hm, hR⟩; have HM6 := Aside0.mk hm; have HI6 := Aside0.mk hR; clear hm hR)
    go_upto_region 8 with (go_at_call 60; refine (HKN.out _ _ HM6.out.since).mono ?_; rintro e w7 ⟨rfl, hm⟩; have HM7 := Aside0.mk hm; have HI7 := Aside0.mk (Kd.R_keep HI6.out hm.keep (fun k hk => by have := blk_lt HM5.out.blk; omega)); clear hm)
    have HS := Aside0.mk HM7.out.since
    have HG7 := Aside0.mk (blk_lt HM7.out.blk)
    have HS7 := Aside0.mk HM7.out.below.size
    have HIO := Aside0.mk (show ∀ k_, w5.heap.size ≤ k_ → k_ ≠ g from fun k_ hk => by have := blk_lt HM5.out.blk; omega)
    have HI5 := Aside0.mk (Nat.le_trans HB4.out.size HM5.out.below.size)
    have HTX := Aside0.mk (fun a e W0 W (ha : a ≤ D.length) (h : Rr w4 W0 W g A4 c4 D (a : Nat) e) => And.intro (RefText.text_ g A4 c4 D a 4096 e w4 W0 W h hbD0 ha hl2 (by omega)) (textR_at D a 4096 e hbD0 ha (by omega)))
    have HEN := Aside0.mk (fun a e W0 W (h : Rr w4 W0 W g A4 c4 D (a : Nat) e) => RefRd.end_ g A4 c4 D a e w4 W0 W h)
    clear HH HBF HB1 HB2 HB3 HC2 HR HCN HRW HKN HM5 HM6 HI6 HM7
    go_wp2_with fail
    go_loopw [10, 11] (fun t10 t11 wr => ∃ (j k' a : Nat) (e : Int) (acc : List ByteArray), t11 = .int .i64 (j : Int) ∧ j + k' = k ∧ acc.length + k' ≤ 1048576 ∧ Aside0 (a ≤ D.length) ∧ Aside0 (texts D k' a e acc = TX) ∧ Aside0 (Rr w4 w7 wr g A4 c4 D (a : Nat) e) ∧ Aside0 (Kd.R Kd.string 9 wr w7.heap.size (fun k_ => w7.heap.size ≤ k_) t10 acc)) (fun _ n _ => k - (intOf n).toNat)
    case atStart => exact ⟨0, k, KN.2.1, KN.2.2, [], rfl, by omega, by simpa using hk6, HK3, HE4, HS, ⟨Kd.R_nil _ _ _ _ _⟩⟩
    case round =>
      clear HS HE4 HK3
      obtain ⟨j, k', a, e, acc, rfl, hjk, hk, HA, HT, HMr, HO⟩ := hrel
      obtain ⟨h0, h1, h2, f1, f2⟩ := HMr.out.look
      clear h0 h1 f1 f2
      by_cases hgo : j < k ∧ e = 0
      · obtain ⟨hj0, rfl⟩ := hgo
        obtain ⟨k', rfl⟩ : ∃ k'', k' = k'' + 1 := ⟨k' - 1, by omega⟩
        have hT := HT.out
        rw [texts_go] at hT
        have H41 := HTX.out a 0 wr wr HA.out HMr.out.since
        generalize textR D a 4096 0 = T at hT H41
        have HT2 := Aside0.mk hT
        have HT41 := Aside0.mk H41.1
        have HA2 := Aside0.mk H41.2
        clear hT HT H41
        have p1 : decide ((j : Int) < (k : Int)) = true := decide_eq_true (by omega)
        have p2 : decide (j < k) = true := decide_eq_true (by omega)
        have hw : wrap64 ((j : Int) + 1) = ((j + 1 : Nat) : Int) := w64 j (by omega)
        go_wp2_with (first
          | (go_at_call 62; refine HT41.out.mono ?_; rintro e w8 ⟨rfl, hm⟩; have HM8 := Aside0.mk (rr_trans HMr.out hm); have HO8 := Aside0.mk (Kd.R_keep HO.out (hm.keep) (fun k_ hk_ => by have := HG7.out; omega)); clear hm)
          | (at_builtin; refine Kd.R_append Kd.string (w0 := w8) w7.heap.size rfl (.tmp 42) (.tmp 44) 22 9 (.string ⟨#[]⟩) 16 rfl Try.underlying22 infoS rfl (by decide) (by omega) _ acc (strOfNums T.1) [.string (strOfNums T.1)] (fun k_ => w7.heap.size ≤ k_) (fun _ => False) rfl rfl rfl (fun _ hk => hk.elim) (fun _ hk => Nat.le_trans HM8.out.keep.1 hk) HO8.out (Below.refl _ _) HM8.out.keep.1 (by omega) ?_; intro v1 w9 ho hb8 hg hat; have HO9 := Aside0.mk ho; have HB9 := Aside0.mk hb8; clear ho hb8 hg hat))
        go_roundw
        case rel => exact ⟨j + 1, k', T.2.1, T.2.2, acc ++ [strOfNums T.1], by first | rfl | (rw [← hw]; rfl), by omega, by rw [List.length_append, List.length_singleton]; omega, HA2, HT2, ⟨rr_app HM8.out HG7.out HS7.out HB9.out⟩, HO9⟩
        case measure => simp [intOf]; omega
      · have hst : k' = 0 ∨ e ≠ 0 := by
          by_cases h0 : k' = 0
          · exact .inl h0
          · exact .inr (fun h => hgo ⟨by omega, h⟩)
        have hT := HT.out
        rw [texts_stop _ _ _ _ _ hst] at hT
        subst hT
        have hR := HRR.out
        have HE63 := Aside0.mk (fun W0 W (h : Rr w4 W0 W g A4 c4 D (a : Nat) e) => HEN.out a e W0 W h)
        clear HT HRR hst
        simp only at hR
        obtain ⟨q, hq⟩ : ∃ q, q = endR D a e := ⟨_, rfl⟩
        rw [← hq] at hR HE63
        clear hq
        have hk0 : (decide ((j : Int) < (k : Int)) = false ∧ decide (j < k) = false) ∨ ((decide ((j : Int) < (k : Int)) = true ∧ decide (j < k) = true) ∧ (e == 0) = false) := by
          by_cases h0 : j < k
          · exact .inr ⟨⟨decide_eq_true (by omega), decide_eq_true h0⟩, by simpa using fun h => hgo ⟨h0, h⟩⟩
          · exact .inl ⟨decide_eq_false (by omega), decide_eq_false h0⟩
        clear hgo
        by_cases hq : q = 0
        · rw [if_neg (show ¬ q ≠ 0 from fun h => h hq)] at hR
          subst hq
          subst hR
          rcases hk0 with ⟨p1, p3⟩ | ⟨⟨p1, p3⟩, p2⟩
          all_goals (
            go_wp2_with (go_at_call 63; refine (HE63.out _ _ HMr.out.since).mono ?_; rintro e w8 ⟨rfl, hm⟩; have HM8 := Aside0.mk (rr_trans HMr.out hm); have HO8 := Aside0.mk (Kd.R_keep HO.out (hm.keep) (fun k_ hk_ => by have := HG7.out; omega)); clear hm)
            go_ret3
            exact ⟨_, _, rfl, int_down (Kd.R_keep HI7.out HM8.out.keep HIO.out) HI5.out, str_down HO8.out (Nat.le_trans HB4.out.size HS7.out), below_then HB4.out HB4.out.size HM8.out.below⟩)
        · rw [if_pos hq] at hR
          subst hR
          have p5 : (q != 0) = true := by simpa using hq
          have p6 : (q == 0) = false := by simpa using hq
          rcases hk0 with ⟨p1, p3⟩ | ⟨⟨p1, p3⟩, p2⟩
          all_goals (
            go_upto_region 15 with (go_at_call 63; refine (HE63.out _ _ HMr.out.since).mono ?_; rintro e w8 ⟨rfl, hm⟩; have HM8 := Aside0.mk (rr_trans HMr.out hm); clear hm)
            go_wp2_with (go_at_call 63; refine (HE63.out _ _ HM8.out.since).mono ?_; rintro e w9 ⟨rfl, hm⟩; have HM9 := Aside0.mk (rr_trans HM8.out hm); clear hm)
            go_ret3
            exact ⟨_, _, rfl, Kd.R_nil _ _ _ _ _, Kd.R_nil _ _ _ _ _, below_then HB4.out HB4.out.size HM9.out.below⟩)
  · rw [if_pos hh] at hR
    subst hR
    have b1 : (hd b != 0) = true := by simpa using hh
    have b2 : (hd b == 0) = false := by simpa using hh
    go_wp2
    go_ret3
    exact ⟨_, _, rfl, Kd.R_nil _ _ _ _ _, Kd.R_nil _ _ _ _ _, HB1.out⟩
end Go.Proofs.Ytcgajjaaiablkaa.RefOpen
