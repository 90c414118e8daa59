/- Relay: Open. -/
import Derived.Test.YtcgajjaaiablkaaRHead2
namespace Go.Proofs.Ytcgajjaaiablkaa.ROpen
open Go.RowKit Go.Proofs.YtcgajjaaiablkaaW.PrintWords Go.Proofs.YtcgajjaaiablkaaW.PrintLast Go.Proofs.YtcgajjaaiablkaaW.PrintMore
open Go.Proofs.Ytcgajjaaiablkaa.PRelaySealed Go.Proofs.Ytcgajjaaiablkaa.Reader Go.Proofs.Ytcgajjaaiablkaa.RRaw Go.Proofs.Ytcgajjaaiablkaa.RCount Go.Proofs.Ytcgajjaaiablkaa.RText Go.Proofs.Ytcgajjaaiablkaa.RWord Go.Proofs.Ytcgajjaaiablkaa.RefRd Go.Proofs.Ytcgajjaaiablkaa.RHd Go.Proofs.Ytcgajjaaiablkaa.RHead Go.Proofs.Ytcgajjaaiablkaa.RHead2
set_option linter.unusedVariables false
set_option linter.unusedSimpArgs false

theorem infoS : (Try.prog.info? 9).map (fun i => (i.zero, i.size, i.bytes)) = some (some (.string ⟨#[]⟩), 1, 16) := by kernel_rfl
/-- What is laid behind a world leaves the reader where it stands. -/
theorem moved_app {w0 ws W w1 : World} {g : Nat} {bs : List Int} {a e : Int} (h : Moved w0 ws W g bs a e) (hg : g < ws.heap.size) (h0 : w0.heap.size ≤ ws.heap.size) (hb : Below ws.heap.size W w1) : Moved w0 ws w1 g bs a e := by
  obtain ⟨⟨A, c, h1, h2, h3, h4⟩, hB, hk⟩ := h
  refine ⟨⟨A, c, (hb.block g hg).trans h1, h2, h3, h4⟩, hB.trans (hb.mono h0), Nat.le_trans hk.1 hb.size, fun i hi hne hr => (hb.block i hi).trans (hk.2 i hi hne hr)⟩
/-- What is answered: new rows. -/
def Opened (w : World) (r : List Int × List ByteArray × Int) (e : Ending) (w' : World) : Prop := ∃ vi vo, e = .returned (.tuple #[vi, vo, .int .i64 r.2.2]) ∧ Kd.R (Kd.int .u8) 5 w' w.heap.size (fun _ => True) vi r.1 ∧ Kd.R Kd.string 9 w' w.heap.size (fun _ => True) vo r.2.1 ∧ Below w.heap.size w w'
theorem int_down {W : World} {b' b0 : Nat} {ok : Nat → Prop} {v : Value} {xs : List Int} (h : Kd.R (Kd.int .u8) 5 W b0 ok v xs) (hle : b' ≤ b0) : Kd.R (Kd.int .u8) 5 W b' (fun _ => True) v xs :=
  Kd.R_raise (b := b0) (fun _ _ _ _ h => h) (Kd.R_mono h (fun _ _ => trivial)) (fun k hk => by obtain ⟨inner, ho⟩ := Kd.R_own h; exact Nat.le_trans hle (own_base ho k hk))
theorem str_down {W : World} {b' b0 : Nat} {ok : Nat → Prop} {v : Value} {xs : List ByteArray} (h : Kd.R Kd.string 9 W b0 ok v xs) (hle : b' ≤ b0) : Kd.R Kd.string 9 W b' (fun _ => True) v xs :=
  Kd.R_raise (b := b0) (fun _ _ _ _ h => h) (Kd.R_mono h (fun _ _ => trivial)) (fun k hk => by obtain ⟨inner, ho⟩ := Kd.R_own h; exact Nat.le_trans hle (own_base ho k hk))
theorem texts_stop (bs : List Int) (k a : Nat) (e : Int) (acc : List ByteArray) (h : k = 0 ∨ e ≠ 0) : texts bs k a e acc = (acc, a, e) := by
  cases k with
  | zero => rfl
  | succ k => rw [texts, if_pos (by simpa using h)]
theorem texts_go (bs : List Int) (k a : Nat) (acc : List ByteArray) : texts bs (k + 1) a 0 acc = texts bs k (textR bs a 4096 0).2.1 (textR bs a 4096 0).2.2 (acc ++ [strOfNums (textR bs a 4096 0).1]) := by rw [texts, if_neg (by simp)]
set_option maxHeartbeats 8000000 in
set_option maxRecDepth 100000 in
theorem open_ (A : Option Addr) (c : Nat) (b : List Int) (w : World) (hC : Kd.C (Kd.int .u8) w A b.length b) (hc : b.length ≤ c) (hl : b.length ≤ 140737488355232) (hb : Bytes b) :
    Calls Try.prog 20 #[.slice A b.length c] w (Opened w (opn b)) := by
  have HN := Aside0.mk (new_ A c b w hC (by omega))
  have HH := Aside0.mk (fun g w0 w1 (h1 : Rd w0 w1 g b 0 0) (h2 : Below w.heap.size w w0) (h3 : Below w0.heap.size w0 w1) => head_ g A c b w0 w1 h1 h3 hl hb (Kd.C_below hC h2) hc)
  clear hC
  obtain ⟨R, hR⟩ : ∃ R, R = opn b := ⟨_, rfl⟩
  rw [← hR]
  go_enter Try.func20, Try.ntmps20
  go_upto_region 3 with (first
    | (go_at_call 36; refine HN.out.mono ?_; rintro e w2 ⟨w1, g, rfl, h1, h2, h3⟩; have HR := Aside0.mk h1; have HB := Aside0.mk h2; have HB2 := Aside0.mk h3; clear h1 h2 h3)
    | (go_at_call 37; refine (HH.out g w1 w2 HR.out HB.out HB2.out).mono ?_; rintro e w3 ⟨rfl, hb3, hm3⟩; have HB3 := Aside0.mk hb3; have HM3 := Aside0.mk hm3; clear hb3 hm3))
  unfold opn at hR
  by_cases hh : hd b = 0
  · rw [if_neg (by simpa using hh)] at hR
    have hM := HM3.out hh
    have HM := Aside0.mk hM
    have h44 : 44 ≤ b.length := by
      clear HM hM HM3
      unfold hd at hh
      repeat' split at hh
      all_goals first | omega | simp at hh
    rw [hh]
    clear hh HM3 hM
    have HCN := Aside0.mk (fun w' (h : Moved w1 w2 w' g b (44 : Nat) 0) => count_ g b 44 67108864 0 w1 w' h.rd h.below hb h44 (by omega))
    have h1 := countR_at b 44 67108864 0 hb h44 (by omega)
    have E1 : countR b 44 67108864 0 = cn b 44 := rfl
    rw [E1] at h1 HCN
    clear E1
    have h2 := rawR_at b (cn b 44).2.1 (cn b 44).1.toNat (cn b 44).2.2 h1.1
    have E2 : rawR b (cn b 44).2.1 (cn b 44).1.toNat (cn b 44).2.2 = im b 44 := rfl
    have HRW := Aside0.mk (fun w' (h : Moved w1 w2 w' g b (cn b 44).2.1 (cn b 44).2.2) => raw_ g b (cn b 44).2.1 (cn b 44).1.toNat (cn b 44).2.2 w1 w' h.rd h.below h1.1 (by omega))
    rw [E2] at h2 HRW
    clear E2
    have h3 := countR_at b (im b 44).2.1 1048576 (im b 44).2.2 hb h2.1 (by omega)
    have E3 : countR b (im b 44).2.1 1048576 (im b 44).2.2 = kn b 44 := rfl
    have HKN := Aside0.mk (fun w' (h : Moved w1 w2 w' g b (im b 44).2.1 (im b 44).2.2) => count_ g b (im b 44).2.1 1048576 (im b 44).2.2 w1 w' h.rd h.below hb h2.1 (by omega))
    rw [E3] at h3 HKN
    clear E3
    have E4 : texts b (kn b 44).1.toNat (kn b 44).2.1 (kn b 44).2.2 [] = tx b 44 := rfl
    obtain ⟨TX, hTX⟩ : ∃ T, T = tx b 44 := ⟨_, rfl⟩
    have E5 : body b 44 = if endR b TX.2.1 TX.2.2 ≠ 0 then ([], [], endR b TX.2.1 TX.2.2) else ((im b 44).1, TX.1, 0) := by rw [hTX]; rfl
    rw [← hTX] at E4
    rw [E5] at hR
    clear E5 hTX
    obtain ⟨CN, hCN⟩ : ∃ x, x = cn b 44 := ⟨_, rfl⟩
    obtain ⟨IM, hIM⟩ : ∃ x, x = im b 44 := ⟨_, rfl⟩
    obtain ⟨KN, hKN⟩ : ∃ x, x = kn b 44 := ⟨_, rfl⟩
    rw [← hCN] at h1 HCN HRW
    rw [← hIM] at h2 HRW HKN hR
    rw [← hKN] at h3 HKN E4
    clear hCN hIM hKN
    obtain ⟨n, hn⟩ : ∃ n : Nat, CN.1 = n := ⟨CN.1.toNat, by omega⟩
    obtain ⟨k, hk⟩ : ∃ k : Nat, KN.1 = k := ⟨KN.1.toNat, by omega⟩
    rw [hn] at HCN HRW
    rw [hk] at HKN h3 E4
    rw [Int.toNat_natCast] at HRW E4
    have HE4 := Aside0.mk E4
    have HI2 := Aside0.mk h2.1
    have HK3 := Aside0.mk h3.1
    have hk6 : k ≤ 1048576 := by omega
    have HRR := Aside0.mk hR
    clear hR
    clear h1 h2 h3 hn hk E4
    go_upto_region 7 with (first
      | (go_at_call 39; refine (HCN.out _ HM.out).mono ?_; rintro e w4 ⟨rfl, hm⟩; have HM4 := Aside0.mk (HM.out.trans hm); clear hm)
      | (go_at_call 38; refine (HRW.out _ HM4.out).mono ?_; rintro e w5 ⟨vi, rfl, hm, hR⟩; have HM5 := Aside0.mk (HM4.out.trans hm); have HI5 := Aside0.mk hR; clear hm hR))
    go_upto_region 8 with (go_at_call 39; refine (HKN.out _ HM5.out).mono ?_; rintro e w6 ⟨rfl, hm⟩; have HM6 := Aside0.mk (HM5.out.trans hm); have HI6 := Aside0.mk (Kd.R_keep HI5.out hm.keep (fun k hk => by have := HM4.out.rd.lt; omega)); clear hm)
    have HS := Aside0.mk (show Moved w1 w6 w6 g b KN.2.1 KN.2.2 from Moved.refl HM6.out.rd HM6.out.below)
    have HG6 := Aside0.mk HM6.out.rd.lt
    have HS6 := Aside0.mk HM6.out.below.size
    have HIO := Aside0.mk (show ∀ k_, w4.heap.size ≤ k_ → k_ ≠ g from fun k_ hk => by have := HM4.out.rd.lt; omega)
    have HTX := Aside0.mk (fun a e w' (ha : a ≤ b.length) (h : Moved w1 w6 w' g b (a : Nat) e) => And.intro (text_ g b a 4096 e w1 w' h.rd h.below hb ha (by omega)) (textR_at b a 4096 e hb ha (by omega)))
    have HEN := Aside0.mk (fun a e w' (ha : a ≤ b.length) (h : Moved w1 w6 w' g b (a : Nat) e) => end_ g b a e w1 w' h.rd h.below ha)
    have HW6 := Aside0.mk (show Below w.heap.size w w6 from below_then HB.out HB.out.size HM6.out.below)
    clear HN HH HR HB2 HB3 HM HCN HRW HKN HM5 HI5 HM6
    go_wp2_with fail
    go_loopw [8, 9] (fun t8 t9 wr => ∃ (k a : Nat) (e : Int) (acc : List ByteArray), t9 = .int .i64 (k : Int) ∧ acc.length + k ≤ 1048576 ∧ Aside0 (a ≤ b.length) ∧ Aside0 (texts b k a e acc = TX) ∧ Aside0 (Moved w1 w6 wr g b (a : Nat) e) ∧ Aside0 (Kd.R Kd.string 9 wr w6.heap.size (fun k_ => w6.heap.size ≤ k_) t8 acc)) (fun _ n _ => (intOf n).toNat)
    case atStart => exact ⟨k, KN.2.1, KN.2.2, [], rfl, by simpa using hk6, HK3, HE4, HS, ⟨Kd.R_nil _ _ _ _ _⟩⟩
    case round =>
      clear HS HE4 HK3 hk6
      obtain ⟨k, a, e, acc, rfl, hk, HA, HT, HMr, HO⟩ := hrel
      by_cases hgo : 0 < k ∧ e = 0
      · obtain ⟨hk0, rfl⟩ := hgo
        obtain ⟨k, rfl⟩ : ∃ k', k = k' + 1 := ⟨k - 1, by omega⟩
        have hT := HT.out
        rw [texts_go] at hT
        have H41 := HTX.out a 0 wr HA.out HMr.out
        generalize textR b a 4096 0 = T at hT H41
        have HT2 := Aside0.mk hT
        have HT41 := Aside0.mk H41.1
        have HA2 := Aside0.mk H41.2
        clear hT HT H41 hk0
        have p1 : decide ((0 : Int) < ((k + 1 : Nat) : Int)) = true := decide_eq_true (by omega)
        have hw : wrap64 (((k + 1 : Nat) : Int) - 1) = (k : Int) := by unfold wrap64; omega
        go_wp2_with (first
          | (go_at_call 40; refine (err_ g b _ _ w1 _ HMr.out.rd).mono ?_; rintro e w' ⟨rfl, rfl⟩)
          | (go_at_call 41; refine HT41.out.mono ?_; rintro e w7 ⟨rfl, hm⟩; have HM7 := Aside0.mk (HMr.out.trans hm); have HO7 := Aside0.mk (Kd.R_keep HO.out hm.keep (fun k_ hk_ => by have := HG6.out; omega)); clear hm)
          | (at_builtin; refine Kd.R_append Kd.string (w0 := w7) w6.heap.size rfl (.tmp 34) (.tmp 37) 22 9 (.string ⟨#[]⟩) 16 rfl Try.underlying22 infoS rfl (by decide) (by omega) _ acc (strOfNums T.1) [.string (strOfNums T.1)] (fun k_ => w6.heap.size ≤ k_) (fun _ => False) rfl rfl rfl (fun _ hk => hk.elim) (fun _ hk => Nat.le_trans HM7.out.keep.1 hk) HO7.out (Below.refl _ _) HM7.out.keep.1 (by omega) ?_; intro v1 w8 ho hb8 hg hat; have HO8 := Aside0.mk ho; have HB8 := Aside0.mk hb8; clear ho hb8 hg hat))
        go_roundw
        case rel => exact ⟨k, T.2.1, T.2.2, acc ++ [strOfNums T.1], by rw [← hw], by rw [List.length_append, List.length_singleton]; omega, HA2, HT2, ⟨moved_app HM7.out HG6.out HS6.out HB8.out⟩, HO8⟩
        case measure => simp [intOf]
      · have hst : k = 0 ∨ e ≠ 0 := by
          by_cases h0 : k = 0
          · exact .inl h0
          · exact .inr (fun h => hgo ⟨by omega, h⟩)
        have hT := HT.out
        rw [texts_stop _ _ _ _ _ hst] at hT
        subst hT
        have hR := HRR.out
        have HE42 := Aside0.mk (fun w' (h : Moved w1 w6 w' g b (a : Nat) e) => HEN.out a e w' HA.out h)
        clear HT HRR hst
        simp only at hR
        obtain ⟨q, hq⟩ : ∃ q, q = endR b a e := ⟨_, rfl⟩
        rw [← hq] at hR HE42
        clear hq
        have hk0 : (decide ((0 : Int) < (k : Int)) = false ∧ decide (0 < k) = false) ∨ ((decide ((0 : Int) < (k : Int)) = true ∧ decide (0 < k) = true) ∧ (e == 0) = false) := by
          by_cases h0 : 0 < k
          · exact .inr ⟨⟨decide_eq_true (by omega), decide_eq_true h0⟩, by simpa using fun h => hgo ⟨h0, h⟩⟩
          · exact .inl ⟨decide_eq_false (by omega), decide_eq_false h0⟩
        clear hgo
        have HOB := Aside0.mk (Nat.le_trans HB.out.size HS6.out)
        rcases hk0 with ⟨p1, p3⟩ | ⟨⟨p1, p3⟩, p2⟩
        all_goals (
          go_upto_region 12 with (first
            | (go_at_call 40; refine (err_ g b _ _ w1 _ HMr.out.rd).mono ?_; rintro e w' ⟨rfl, rfl⟩)
            | (go_at_call 42; refine (HE42.out _ HMr.out).mono ?_; rintro e w7 ⟨rfl, hm⟩; have HM7 := Aside0.mk (HMr.out.trans hm); have HO7 := Aside0.mk (Kd.R_keep HO.out hm.keep (fun k_ hk_ => by have := HG6.out; omega)); clear hm)))
        all_goals by_cases hq : q = 0
        all_goals first
          | (rw [if_neg (show ¬ q ≠ 0 from fun h => h hq)] at hR
             subst hq
             subst hR
             go_wp2
             go_ret3
             exact ⟨_, _, rfl, int_down (Kd.R_keep HI6.out HM7.out.keep HIO.out) HB.out.size, str_down HO7.out HOB.out, below_then HB.out HB.out.size HM7.out.below⟩)
          | (rw [if_pos hq] at hR
             subst hR
             have p5 : (q != 0) = true := by simpa using hq
             have p4 : (q == 0) = false := by simpa using hq
             go_wp2
             go_ret3
             exact ⟨_, _, rfl, Kd.R_nil _ _ _ _ _, Kd.R_nil _ _ _ _ _, below_then HB.out HB.out.size HM7.out.below⟩)
  · rw [if_pos hh] at hR
    subst hR
    have b1 : (hd b != 0) = true := by simpa using hh
    have b2 : (hd b == 0) = false := by simpa using hh
    go_wp2
    go_ret3
    exact ⟨_, _, rfl, Kd.R_nil _ _ _ _ _, Kd.R_nil _ _ _ _ _, below_then HB.out HB.out.size HB3.out⟩
end Go.Proofs.Ytcgajjaaiablkaa.ROpen
