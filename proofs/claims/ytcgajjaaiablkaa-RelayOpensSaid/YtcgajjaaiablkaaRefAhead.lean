/- Relay's reference: what stands ahead of a parcel. -/
import Derived.Test.YtcgajjaaiablkaaRHead2
import Derived.Test.YtcgajjaaiablkaaShaRefSum
namespace Go.Proofs.Ytcgajjaaiablkaa.RefAhead
open Go.RowKit Go.Proofs.YtcgajjaaiablkaaW.PrintWords Go.Proofs.YtcgajjaaiablkaaW.PrintLast Go.Proofs.YtcgajjaaiablkaaW.PrintMore
open Go.Proofs.Ytcgajjaaiablkaa.PRelaySealed Go.Proofs.Ytcgajjaaiablkaa.Reader Go.Proofs.Ytcgajjaaiablkaa.ShaP Go.Proofs.Ytcgajjaaiablkaa.ShaRound Go.Proofs.Ytcgajjaaiablkaa.ShaBehind Go.Proofs.Ytcgajjaaiablkaa.ShaEnd Go.Proofs.Ytcgajjaaiablkaa.RHd Go.Proofs.Ytcgajjaaiablkaa.RHead Go.Proofs.Ytcgajjaaiablkaa.RHead2
set_option linter.unusedVariables false
set_option linter.unusedSimpArgs false

theorem rd_cell {W : World} {A : Option Addr} {b : List Int} (h : Kd.C (Kd.int .u8) W A b.length b) (i : Nat) (hi : i < b.length) : ∃ ad, A = some ad ∧ W.cell? (ad.add i) = some (.int .u8 (rd b (i : Int))) := by
  obtain ⟨ad, e, hx⟩ := Kd.at_int h (i : Int) (by omega) (by omega)
  exact ⟨ad, e, by simpa using hx⟩
theorem take_eq (b l : List Int) (o n : Nat) (hl : l.length = n) (h : o + n ≤ b.length) (he : ∀ j, j < n → rd b ((o + j : Nat) : Int) = rd l (j : Int)) : (b.drop o).take n = l := by
  refine List.ext_getElem (by rw [List.length_take, List.length_drop]; omega) (fun j h1 h2 => ?_)
  have h3 := he j (by omega)
  rw [rd_get b _ (by omega), rd_get l j h2] at h3
  rw [List.getElem_take, List.getElem_drop]
  exact h3
theorem take_rd_ (b l : List Int) (o n : Nat) (h : (b.drop o).take n = l) (j : Nat) (hj : j < n) (hb : o + n ≤ b.length) : rd b ((o + j : Nat) : Int) = rd l (j : Int) := by
  subst h
  have h2 : j < ((b.drop o).take n).length := by rw [List.length_take, List.length_drop]; omega
  rw [rd_get b _ (by omega), rd_get _ j h2, List.getElem_take, List.getElem_drop]
theorem mark_rd (i : Nat) (h : i < 4) : (#[Value.int .u8 80, .int .u8 84, .int .u8 82, .int .u8 1])[i]? = some (.int .u8 (rd ptr4 (i : Int))) := by
  match i, h with
  | 0, _ => rfl
  | 1, _ => rfl
  | 2, _ => rfl
  | 3, _ => rfl
/-- The answer. -/
def Said (w : World) (r : Int) (e : Ending) (w' : World) : Prop := e = .returned (.int .i64 r) ∧ Below w.heap.size w w'
set_option maxHeartbeats 8000000 in
set_option maxRecDepth 100000 in
theorem ahead_ (A : Option Addr) (c : Nat) (b : List Int) (w : World) (hC : Kd.C (Kd.int .u8) w A b.length b) (hc : b.length ≤ c) (hl : b.length ≤ 140737488355232) :
    Calls Try.prog 57 #[.slice A b.length c] w (Said w (hd b)) := by
  have HC := Aside0.mk (fun W (h : Below w.heap.size w W) => Kd.C_below hC h)
  have HCC := Aside0.mk hc
  obtain ⟨R, hR⟩ : ∃ R, R = hd b := ⟨_, rfl⟩
  rw [← hR]
  unfold hd at hR
  clear hC hc
  have hB0 : Aside0 (Below w.heap.size w (w.alloc (.cells #[.int .u8 80, .int .u8 84, .int .u8 82, .int .u8 1] 5))) := ⟨below_alloc (Below.refl _ _) _⟩
  have hM0 : Aside0 ((w.alloc (.cells #[.int .u8 80, .int .u8 84, .int .u8 82, .int .u8 1] 5)).heap[w.heap.size]? = some (.cells #[.int .u8 80, .int .u8 84, .int .u8 82, .int .u8 1] 5 (0, 0))) := ⟨blk_new _ _⟩
  by_cases h4 : b.length < 4
  · rw [if_pos h4] at hR
    subst hR
    have p1 : decide ((b.length : Int) < 4) = true := decide_eq_true (by omega)
    have p2 : decide (b.length < 4) = true := decide_eq_true (by omega)
    go_enter Try.func57, Try.ntmps57
    go_wp2
    go_ret
    exact ⟨rfl, hB0.out⟩
  · rw [if_neg h4] at hR
    have p1 : decide ((b.length : Int) < 4) = false := decide_eq_false (by omega)
    have p2 : decide (b.length < 4) = false := decide_eq_false (by omega)
    have HRR := Aside0.mk hR
    obtain ⟨ad, e, -⟩ := rd_cell (HC.out _ (Below.refl _ _)) 0 (by omega)
    subst e
    clear hR
    go_enter Try.func57, Try.ntmps57
    go_wp2_with fail
    generalize w.alloc (.cells #[.int .u8 80, .int .u8 84, .int .u8 82, .int .u8 1] 5) = W1 at hB0 hM0 ⊢
    go_loopw [4] (fun i wr => ∃ j : Nat, i = .int .i64 (j : Int) ∧ j ≤ 4 ∧ Aside0 (∀ q, q < j → rd b ((0 + q : Nat) : Int) = rd ptr4 (q : Int)) ∧ Aside0 (wr.heap[w.heap.size]? = some (.cells #[.int .u8 80, .int .u8 84, .int .u8 82, .int .u8 1] 5 (0, 0))) ∧ Aside0 (Below w.heap.size w wr)) (fun i _ => 4 - (intOf i).toNat)
    case atStart => exact ⟨0, rfl, by omega, ⟨fun q hq => absurd hq (Nat.not_lt_zero _)⟩, hM0, hB0⟩
    case round =>
      clear hM0 hB0
      obtain ⟨i, rfl, hi, HE, HM, HB⟩ := hrel
      by_cases hi4 : i < 4
      · have p3 : decide ((i : Int) < 4) = true := decide_eq_true (by omega)
        have p4 : decide (i < 4) = true := decide_eq_true (by omega)
        have hil : i < b.length := by omega
        obtain ⟨ad', e, hx⟩ := rd_cell (HC.out _ HB.out) i hil
        cases e
        have hy : wr.cell? ⟨w.heap.size, i, none⟩ = some (.int .u8 (rd ptr4 (i : Int))) := (blk_cell HM.out i).trans (mark_rd i hi4)
        have q1 : (0 ≤ (i : Int)) = True := by simp
        have q2 : ((i : Int) < (b.length : Int)) = True := by simp; omega
        have q3 : ((i : Int) < 4) = True := by simp; omega
        by_cases heq : rd b (i : Int) = rd ptr4 (i : Int)
        · have b1 : (rd b (i : Int) != rd ptr4 (i : Int)) = false := by simpa using heq
          have hw : wrap64 ((i : Int) + 1) = ((i + 1 : Nat) : Int) := w64 i (by omega)
          have HE2 := Aside0.mk heq
          clear heq
          go_wp2
          go_quiet (fail)
          go_wp2
          go_roundw
          case rel => exact ⟨i + 1, by first | rfl | (rw [← hw]; rfl), by omega, ⟨fun q hq => by
              by_cases hqi : q = i
              · subst hqi; simpa using HE2.out
              · exact HE.out q (by omega)⟩, HM, ⟨pw_below_drewN HB.out _⟩⟩
          case measure => simp [intOf]; omega
        · have b1 : (rd b (i : Int) != rd ptr4 (i : Int)) = true := by simpa using heq
          have hR := HRR.out
          rw [if_pos (fun h => heq (by simpa using take_rd_ b ptr4 0 4 (by simpa using h) i hi4 (by omega)))] at hR
          subst hR
          clear heq
          go_wp2
          go_quiet (fail)
          go_wp2
          go_ret
          exact ⟨rfl, pw_below_drewN HB.out _⟩
      · obtain rfl : i = 4 := by omega
        clear hi hi4 p1 p2 HM
        have hR := HRR.out
        rw [if_neg (fun h => h (by simpa using take_eq b ptr4 0 4 rfl (by omega) HE.out))] at hR
        clear HE HRR
        by_cases h12 : b.length < 12
        · rw [if_pos h12] at hR
          subst hR
          have p1 : decide ((b.length : Int) < 12) = true := decide_eq_true (by omega)
          have p2 : decide (b.length < 12) = true := decide_eq_true (by omega)
          go_wp2
          go_ret
          exact ⟨rfl, HB.out⟩
        rw [if_neg h12] at hR
        have HRR := Aside0.mk hR
        clear hR
        have p1 : decide ((b.length : Int) < 12) = false := decide_eq_false (by omega)
        have p2 : decide (b.length < 12) = false := decide_eq_false (by omega)
        have HT := Aside0.mk (total_f b 12 (by omega) (by omega))
        obtain ⟨T, hT⟩ : ∃ T, T = tot (b.drop 12) := ⟨_, rfl⟩
        rw [← hT] at HT HRR
        clear hT
        have HPW := Aside0.mk (putWord_f [] T (by simp))
        rw [List.nil_append] at HPW
        have hpl : (pw T 8).length = 8 := pw_length T 8
        obtain ⟨PW, hPW⟩ : ∃ l, l = pw T 8 := ⟨_, rfl⟩
        rw [← hPW] at HPW hpl HRR
        clear hPW
        go_upto_region 13 with (first
          | (go_at_call 34; refine (portageref30_Total.calls _ (some ad) c b _ T _ (HC.out _ HB.out) HCC.out HT.out).mono ?_; rintro e w2 ⟨rfl, ⟨⟨mdr, rfl⟩⟩⟩; have HB2 := Aside0.mk (pw_below_drewN HB.out mdr))
          | (go_at_call 33; refine (portageref01_PutWord.calls _ (fun _ => False) _ [] T PW (wr.drewN mdr) _ (Below.refl _ _) (Kd.R_nil _ _ _ _ _) HPW.out).mono ?_; rintro e w3 ⟨v5, rfl, hR5, hb3, -⟩; obtain ⟨A5, c5, rfl⟩ := Kd.R_slice hR5; have HC5 := Aside0.mk (Kd.R_reads' hR5).2.2; have HB3 := Aside0.mk (below_then HB2.out HB2.out.size hb3); clear hR5 hb3))
        obtain ⟨ad5, e, -⟩ := rd_cell HC5.out 0 (by omega)
        subst e
        clear HB HB2 HT HPW p1 p2
        go_wp2_with fail
        go_loopw [6] (fun i wr => ∃ j : Nat, i = .int .i64 (j : Int) ∧ j ≤ 8 ∧ Aside0 (∀ q, q < j → rd b ((4 + q : Nat) : Int) = rd PW (q : Int)) ∧ Aside0 (Below w3.heap.size w3 wr) ∧ Aside0 (Below w.heap.size w wr)) (fun i _ => 8 - (intOf i).toNat)
        case atStart => exact ⟨0, rfl, by omega, ⟨fun q hq => absurd hq (Nat.not_lt_zero _)⟩, ⟨Below.refl _ _⟩, HB3⟩
        case round =>
          clear HB3
          obtain ⟨i, rfl, hi, HE, HW3, HB⟩ := hrel
          by_cases hi8 : i < 8
          · have p3 : decide ((i : Int) < 8) = true := decide_eq_true (by omega)
            have p4 : decide (i < 8) = true := decide_eq_true (by omega)
            obtain ⟨p, hp⟩ : ∃ p, p = 4 + i := ⟨_, rfl⟩
            have hpl2 : p < b.length := by omega
            have hwp : wrap64 (4 + (i : Int)) = (p : Int) := by unfold wrap64; omega
            have hwp2 : IntKind.i64.wrap (4 + (i : Int)) = (p : Int) := by rw [IntKind.wrap_i64]; omega
            obtain ⟨ad', e, hx⟩ := rd_cell (HC.out _ HB.out) p hpl2
            cases e
            obtain ⟨ad', e, hy⟩ := rd_cell (Kd.C_below HC5.out HW3.out) i (by omega)
            cases e
            have q1 : (0 ≤ (i : Int)) = True := by simp
            have q2 : ((i : Int) < (PW.length : Int)) = True := by simp; omega
            have q3 : ((i : Int) < 8) = True := by simp; omega
            have q4 : (0 ≤ (p : Int)) = True := by simp
            have q5 : ((p : Int) < (b.length : Int)) = True := by simp; omega
            have q6 : (i < 8) = True := by simp; omega
            by_cases heq : rd b (p : Int) = rd PW (i : Int)
            · have b1 : (rd b (p : Int) != rd PW (i : Int)) = false := by simpa using heq
              have hw : wrap64 ((i : Int) + 1) = ((i + 1 : Nat) : Int) := w64 i (by omega)
              rw [hp] at heq
              have HE2 := Aside0.mk heq
              clear heq hp
              go_wp2
              go_quiet (fail)
              go_wp2
              go_roundw
              case rel => exact ⟨i + 1, by first | rfl | (rw [← hw]; rfl), by omega, ⟨fun q hq => by
                  by_cases hqi : q = i
                  · subst hqi; exact HE2.out
                  · exact HE.out q (by omega)⟩, ⟨pw_below_drewN HW3.out _⟩, ⟨pw_below_drewN HB.out _⟩⟩
              case measure => simp [intOf]; omega
            · have b1 : (rd b (p : Int) != rd PW (i : Int)) = true := by simpa using heq
              have hR := HRR.out
              rw [if_pos (fun h => heq (by rw [hp]; exact take_rd_ b PW 4 8 h i hi8 (by omega)))] at hR
              subst hR
              clear heq hp
              go_wp2
              go_quiet (fail)
              go_wp2
              go_ret
              exact ⟨rfl, pw_below_drewN HB.out _⟩
          · obtain rfl : i = 8 := by omega
            have hR := HRR.out
            rw [if_neg (fun h => h (take_eq b PW 4 8 hpl (by omega) HE.out))] at hR
            clear hi hi8 HRR HE HC5 HW3 hpl
            by_cases h44 : b.length < 44
            · rw [if_pos h44] at hR
              subst hR
              have p1 : decide ((b.length : Int) < 44) = true := decide_eq_true (by omega)
              have p2 : decide (b.length < 44) = true := decide_eq_true (by omega)
              go_wp2
              go_ret
              exact ⟨rfl, HB.out⟩
            rw [if_neg h44] at hR
            have HRR := Aside0.mk hR
            clear hR
            have p1 : decide ((b.length : Int) < 44) = false := decide_eq_false (by omega)
            have p2 : decide (b.length < 44) = false := decide_eq_false (by omega)
            obtain ⟨D, hD⟩ : ∃ D, D = b.drop 44 := ⟨_, rfl⟩
            have hBH := behind_f b 44 (by omega) (by omega)
            have hlD : D.length ≤ 140737488355232 := by rw [hD, List.length_drop]; omega
            rw [← hD] at hBH HRR
            have HBH := Aside0.mk hBH
            clear hBH hD
            obtain ⟨S, hS⟩ : ∃ S, S = sumOf D := ⟨_, rfl⟩
            have hlS : S.length = 32 := by rw [hS]; exact dig_length _ 32
            have HSUM := Aside0.mk (fun A c W (h1 : Kd.C (Kd.int .u8) W A D.length D) (h2 : D.length ≤ c) => ShaRefSum.rsum_calls D A c W h1 h2 hlD)
            rw [← hS] at HRR HSUM
            clear hS
            go_upto_region 21 with (first
              | (go_at_call 59; refine (portageref30_behind.calls _ (some ad) c b _ D _ (HC.out _ HB.out) HCC.out HBH.out).mono ?_; rintro e w4 ⟨v6, rfl, hR6, hb4⟩; obtain ⟨A6, c6, rfl⟩ := Kd.R_slice hR6; have HC6 := Aside0.mk (Kd.R_reads' hR6).2; have HB4 := Aside0.mk (below_then HB.out HB.out.size hb4); clear hR6 hb4)
              | (go_at_call 31; refine (HSUM.out A6 c6 w4 HC6.out.2 HC6.out.1).mono ?_; rintro e w5 ⟨rfl, hb5⟩; have HB5 := Aside0.mk (below_then HB4.out HB4.out.size hb5); clear hb5)
              | ((with_reducible refine gate_dst (N := 7) rfl ?_); refine box_event_ 56 (u8s (List.replicate 32 0)) rfl rfl (by first | (go_simp; done) | (go_simp; rfl)) ?_; intro g7 w6 hg hA hb; have HA7 := Aside0.mk hA; have HB6 := Aside0.mk hb; have HG7 := Aside0.mk hg; clear hg hA hb)
              | ((with_reducible refine gate_store (t := 56) (p := 7) rfl ?_); refine put_row rfl rfl rfl (g := g7) (u8s S) rfl rfl HA7.out (info56.trans (by rw [size_u8s, hlS])) (by rw [size_u8s, size_u8s, hlS]; rfl) (all_one _ _) ?_; intro w7 h1 h2; have HR9 := Aside0.mk h1; have HW9 := Aside0.mk h2; clear h1 h2))
            have HB7 := Aside0.mk (below_then HB5.out HB5.out.size (HW9.out.below HB6.out HG7.out))
            clear HW9 HB6 HG7 HB5 HB4 HSUM HBH HA7 HB p1 p2 HC6
            go_wp2_with fail
            go_loopw [8] (fun i wr => ∃ j : Nat, i = .int .i64 (j : Int) ∧ j ≤ 32 ∧ Aside0 (∀ q, q < j → rd b ((12 + q : Nat) : Int) = rd S (q : Int)) ∧ Aside0 (wr.heap[g7]? = some (.cells (u8s S) 56 (0, 0))) ∧ Aside0 (Below w.heap.size w wr)) (fun i _ => 32 - (intOf i).toNat)
            case atStart => exact ⟨0, rfl, by omega, ⟨fun q hq => absurd hq (Nat.not_lt_zero _)⟩, HR9, HB7⟩
            case round =>
              clear HB7 HR9
              obtain ⟨i, rfl, hi, HE, HM, HB⟩ := hrel
              by_cases hi32 : i < 32
              · have p3 : decide ((i : Int) < 32) = true := decide_eq_true (by omega)
                have p4 : decide (i < 32) = true := decide_eq_true (by omega)
                obtain ⟨p, hp⟩ : ∃ p, p = 12 + i := ⟨_, rfl⟩
                have hpl2 : p < b.length := by omega
                have hwp : wrap64 (12 + (i : Int)) = (p : Int) := by unfold wrap64; omega
                have hwp2 : IntKind.i64.wrap (12 + (i : Int)) = (p : Int) := by rw [IntKind.wrap_i64]; omega
                obtain ⟨ad', e, hx⟩ := rd_cell (HC.out _ HB.out) p hpl2
                cases e
                have hy : wr.cell? ⟨g7, i, none⟩ = some (.int .u8 (rd S (i : Int))) := (blk_cell HM.out i).trans (u8s_at S i (by omega))
                have q1 : (0 ≤ (i : Int)) = True := by simp
                have q2 : ((i : Int) < 32) = True := by simp; omega
                have q3 : (i < 32) = True := by simp; omega
                have q4 : (0 ≤ (p : Int)) = True := by simp
                have q5 : ((p : Int) < (b.length : Int)) = True := by simp; omega
                by_cases heq : rd b (p : Int) = rd S (i : Int)
                · have b1 : (rd b (p : Int) != rd S (i : Int)) = false := by simpa using heq
                  have hw : wrap64 ((i : Int) + 1) = ((i + 1 : Nat) : Int) := w64 i (by omega)
                  rw [hp] at heq
                  have HE2 := Aside0.mk heq
                  clear heq hp
                  go_wp2
                  go_quiet (fail)
                  go_wp2
                  go_roundw
                  case rel => exact ⟨i + 1, by first | rfl | (rw [← hw]; rfl), by omega, ⟨fun q hq => by
                      by_cases hqi : q = i
                      · subst hqi; exact HE2.out
                      · exact HE.out q (by omega)⟩, HM, ⟨pw_below_drewN HB.out _⟩⟩
                  case measure => simp [intOf]; omega
                · have b1 : (rd b (p : Int) != rd S (i : Int)) = true := by simpa using heq
                  have hR := HRR.out
                  rw [if_pos (fun h => heq (by rw [hp]; exact take_rd_ b S 12 32 h i hi32 (by omega)))] at hR
                  subst hR
                  clear heq hp
                  go_wp2
                  go_quiet (fail)
                  go_wp2
                  go_ret
                  exact ⟨rfl, pw_below_drewN HB.out _⟩
              · obtain rfl : i = 32 := by omega
                have hR := HRR.out
                rw [if_neg (fun h => h (take_eq b S 12 32 hlS (by omega) HE.out))] at hR
                subst hR
                clear hi hi32 HRR HE HM
                go_wp2
                go_ret
                exact ⟨rfl, HB.out⟩
end Go.Proofs.Ytcgajjaaiablkaa.RefAhead
