/- The law kit's ApartInts: of rows of numbers that lie apart it answers true. -/
import Derived.Test.YtjeaojolhdfpeaaFam
import Derived.Test.YtjeaojolhdfpeaaPProfileHotx0
import Derived.Deep.RegionWith
namespace Go.Proofs.Ytjeaojolhdfpeaa.Fam
open Go.RowKit Go.Proofs.YtjeaojolhdfpeaaW.PrintWords Go.Proofs.YtjeaojolhdfpeaaW.PrintLast Go.Proofs.YtjeaojolhdfpeaaW.PrintMore Go.Proofs.Ytjeaojolhdfpeaa.Grow
set_option linter.unusedVariables false
set_option linter.unusedSimpArgs false

theorem infoA32 : (Try.prog.info? 51).map (fun i => (i.zero, i.size, i.bytes)) = some (some (.slice none 0 0), 1, 24) := by kernel_rfl
theorem infoA1 : (Try.prog.info? 3).map (fun i => (i.zero, i.size, i.bytes)) = some (some (.int .i64 0), 1, 8) := by kernel_rfl
theorem at_kh {W : World} {A : Option Addr} {n : Nat} {l : List HS} (h : kh.C W A n l) (i : Nat) (hi : i < n) (x : HS) (hx : l[i]? = some x) : ∃ ad, A = some ad ∧ W.cell? (ad.add i) = some (hv x) := by
  obtain ⟨ad, c, e, _, hK, hc0⟩ := Kd.C_get h ((none, 0, 0) : HS) (i : Int) (by omega) (by omega)
  have hc : ∀ j u, c[j]? = some u → W.cell? (ad.add (i * 1 + j)) = some u := hc0
  have hgx : l.getD (i : Int).toNat (none, 0, 0) = x := by simp [List.getD_eq_getElem?_getD, hx]
  rw [hgx] at hK
  have hKc : c = [hv x] := hK
  subst hKc
  exact ⟨ad, e, by have hq := hc 0 _ rfl; rwa [Nat.mul_one, Nat.add_zero] at hq⟩
def marki64 (k i : Nat) : Int := 1000003 * ((k : Int) + 1) + i
/-- What it leaves. -/
def Told (w0 w : World) (vs : Nat → HS) (n : Nat) (e : Ending) (w' : World) : Prop := e = .returned (.bool true) ∧ Below w0.heap.size w0 w' ∧ Kept w w' (Own vs n)
set_option maxHeartbeats 8000000 in
set_option maxRecDepth 100000 in
theorem apartInts_calls (A : Option Addr) (n c : Nat) (vs : Nat → HS) (len : Nat → Nat) (xs : Nat → List Int) (w0 w : World) (hG : Given (Kd.int .i64) 3 w0 w vs n xs) (hl : ∀ j, j < n → (xs j).length = len j) (hls : ∀ W', Kept w W' (Own vs n) → kh.C W' A n ((List.range n).map vs))
    (hsz : ∀ j, j < n → (len j + 64) * 8 ≤ 140737488355328) (hnsz : n * 24 ≤ 140737488355328) :
    Calls Try.prog 32 #[.slice A n c] w (Told w0 w vs n) := by
  obtain ⟨i0, hi0, hi1, hi2, hi3⟩ := info_parts infoA32
  obtain ⟨j0, hj0, hj1, hj2, hj3⟩ := info_parts infoA1
  have HG := Aside0.mk hG
  have HL := Aside0.mk hl
  have HO := Aside0.mk hls
  have HZ := Aside0.mk hsz
  have H1 := Aside0.mk (P1.start (mk := marki64) hG hl)
  have hw0 : w0.heap.size ≤ w.heap.size := hG.below.size
  have HVL : Aside0 (∀ j, j < n → ∃ Aj cj, vs j = (Aj, len j, cj)) := ⟨fun j hj => by
    have h1 := (Kd.R_reads' (A := (vs j).1) (n := (vs j).2.1) (c := (vs j).2.2) (hG.rows j hj)).1
    rw [hl j hj] at h1
    exact ⟨(vs j).1, (vs j).2.2, by rw [← h1]⟩⟩
  have HRD : Aside0 (∀ W' k, Kept w W' (Own vs n) → k < n → ∃ ad, A = some ad ∧ W'.cell? (ad.add k) = some (hv (vs k))) := ⟨fun W' k hk hn => at_kh (hls W' hk) k hn (vs k) (by simp [hn])⟩
  clear hG hl hls hsz
  go_enter Try.func32, Try.ntmps32
  go_wp2_with fail
  go_loopw [3] (fun k wr => ∃ (i : Nat) (ys : Nat → List Int), i ≤ n ∧ k = .int .i64 i ∧ Aside0 (P1 (Kd.int .i64) 3 w0 w vs n len marki64 wr i ys)) (fun k _ => n - (intOf k).toNat)
  case atStart => exact ⟨0, xs, by omega, rfl, H1⟩
  case round =>
    clear H1
    obtain ⟨k, ys, hk, rfl, HS⟩ := hrel
    by_cases hlt : k < n
    · have hz := HZ.out k hlt
      obtain ⟨Ak, ck, hvk⟩ := HVL.out k hlt
      obtain ⟨ad, rfl, _⟩ := HRD.out wr k HS.out.kept hlt
      go_wp2_with fail
      go_loopw [4] (fun i wi => ∃ (m : Nat) (ys : Nat → List Int), m ≤ len k ∧ i = .int .i64 m ∧ Aside0 (P1 (Kd.int .i64) 3 w0 w vs n len marki64 wi k ys) ∧ Aside0 (Pre marki64 k m (ys k))) (fun i _ => len k - (intOf i).toNat)
      case atStart => exact ⟨0, ys, by omega, rfl, HS, ⟨pre_zero _⟩⟩
      case round =>
        clear HS
        obtain ⟨m, ys, hm, rfl, HS, HP⟩ := hrel
        obtain ⟨ad2, h2, h0⟩ := HRD.out wr k HS.out.kept hlt
        cases h2
        rw [hvk] at h0
        simp only [hv] at h0
        by_cases hml : m < len k
        · have hR := HS.out.rows k hlt
          have hyl := HS.out.size k hlt
          rw [hvk] at hR
          simp only [hv] at hR
          obtain ⟨g, cap, he, hge, _, _⟩ := Kd.R_form hR (by omega)
          injection he with he1 he2 he3
          subst he1; subst he3
          obtain ⟨hc0, hf0⟩ := Kd.R_celln (enc := Value.int .i64) (h1 := fun _ => rfl) (0 : Int) hR (m : Int) (by omega) (by omega)
          simp only [Int.toNat_natCast] at hc0 hf0
          have hput := Kd.R_putg (enc := Value.int .i64) (h1 := fun _ => rfl) hR (m : Int) (marki64 k m)
          simp only [Int.toNat_natCast] at hput
          have HPut := Aside0.mk hput
          have HV := Aside0.mk hvk
          have hyl2 := Aside0.mk hyl
          clear hput hR he2 hyl hvk
          go_wp2_with fail
          go_roundw
          case rel =>
            refine ⟨m + 1, _, by omega, by go_num, ⟨HS.out.store HG.out hlt (i := m) (x' := marki64 k m) ?_ (below_set HS.out.below hge) ?_⟩, ⟨?_⟩⟩
            · rw [HV.out]
              exact HPut.out.1
            · rw [HV.out]
              exact HPut.out.2
            · simp only [if_pos]
              exact pre_set HP.out (by rw [hyl2.out]; exact hml)
          case measure => simp [intOf]; omega
        · obtain rfl : m = len k := by omega
          clear hvk
          go_wp2
          go_roundw
          case rel => exact ⟨k + 1, ys, by omega, by go_num, ⟨HS.out.next hlt HP.out⟩⟩
          case measure => simp [intOf]; omega
    · obtain rfl : n = k := by omega
      have H2 := Aside0.mk (P2.start (gs := fun _ => (none, 0, 0)) HS.out)
      have H3 := Aside0.mk (Outer.start (et := 51) (w0 := w0) (w := w) (W := wr) (gs := fun _ => (none, 0, 0)))
      clear HS
      go_wp2_with fail
      go_loopw [5, 6] (fun q i wr => ∃ (k : Nat) (gs : Nat → HS) (u : Value), k ≤ n ∧ u = q ∧ i = .int .i64 k ∧ Aside0 (P2 (Kd.int .i64) 3 w0 w vs n len marki64 wr k k gs) ∧ Aside0 (Outer 51 w0 w wr k gs u)) (fun _ i _ => n - (intOf i).toNat)
      case atStart => exact ⟨0, _, _, by omega, rfl, rfl, H2, H3⟩
      case round =>
        clear H2 H3
        obtain ⟨k, gs, u, hk, rfl, rfl, HS, HU⟩ := hrel
        by_cases hlt : k < n
        · obtain ⟨ad, rfl, h0⟩ := HRD.out _ k HS.out.kept hlt
          have hz := HZ.out k hlt
          obtain ⟨Ak, ck, hvk⟩ := HVL.out k hlt
          have HV := Aside0.mk hvk
          rw [hvk] at h0
          simp only [hv] at h0
          have H3 := Aside0.mk (P3.start HS.out HU.out hlt)
          rw [hvk] at H3
          simp only [hv] at H3
          clear hvk
          go_wp2_with fail
          clear h0
          go_loopw [7, 8] (fun q i wi => ∃ (m : Nat) (v : Value), m ≤ 64 ∧ v = q ∧ i = .int .i64 m ∧ Aside0 (P3 (Kd.int .i64) 3 51 w0 w vs n len marki64 wi k m gs u v)) (fun _ i _ => 64 - (intOf i).toNat)
          case atStart => exact ⟨0, _, by omega, rfl, rfl, H3⟩
          case round =>
            clear H3 HS HU
            obtain ⟨m, v, hm, rfl, rfl, HS⟩ := hrel
            by_cases hm64 : m < 64
            · obtain ⟨ad2, h2, h0⟩ := HRD.out _ k HS.out.fam.kept hlt
              cases h2
              rw [HV.out] at h0
              simp only [hv] at h0
              have hw1 : w0.heap.size ≤ wr.heap.size := HS.out.fam.below.size
              have hsv : marki64 k (len k + m) = 1000003 * ((k : Int) + 1) + (len k : Int) + (m : Int) := by simp only [marki64]; push_cast; omega
              go_wp2_with (at_builtin; refine append_keep (Kd.int .i64) (w0 := w0) w0.heap.size rfl (.tmp 52) (.tmp 64) 51 3 (.int .i64 0) 8 rfl Try.underlying51 infoA1 rfl Nat.one_pos (by decide) v (mks marki64 k (len k + m)) (marki64 k (len k + m)) [.int .i64 (1000003 * ((k : Int) + 1) + (len k : Int) + (m : Int))] (fun b => w0.heap.size ≤ b) (fun _ => False) rfl rfl (by rw [hsv]; rfl) (fun _ hk => hk.elim) (fun b hb => Nat.le_trans hw1 hb) (Kd.R_reok rfl HS.out.row (fun b hb => Kd.R_base HS.out.row b hb)) HS.out.fam.below hw1 (by rw [mks_length]; omega) ?_; intro v1 w1 ho hb hg hat; have HS1 := Aside0.mk (HS.out.grow rfl Nat.one_pos HG.out HL.out hlt ho hb hg hat); clear ho hb hg hat)
              go_roundw
              case rel => exact ⟨m + 1, _, by omega, rfl, by go_num, HS1⟩
              case measure => simp [intOf]; omega
            · obtain rfl : m = 64 := by omega
              obtain ⟨Av, cv, rfl⟩ := Kd.R_slice HS.out.row
              have hw1 : w0.heap.size ≤ wr.heap.size := HS.out.fam.below.size
              go_wp2_with (at_builtin; refine Kd.R_append kh (w0 := w0) w0.heap.size rfl (.tmp 66) (.tmp 68) 55 51 (.slice none 0 0) 24 rfl Try.underlying55 infoA32 rfl Nat.one_pos (by decide) u ((List.range k).map gs) (Av, _, cv) [.slice Av _ cv] (fun b => w0.heap.size ≤ b) (fun _ => False) rfl rfl rfl (fun _ hk => hk.elim) (fun b hb => Nat.le_trans hw1 hb) (Kd.R_reok rfl HS.out.outer (fun b hb => Kd.R_base HS.out.outer b hb)) HS.out.fam.below hw1 (by simp; omega) ?_; intro u1 w1 ho hb hg hat; have HN := HS.out.done rfl Nat.one_pos HG.out HL.out hlt (by decide) ho hb hg hat; have HN1 := Aside0.mk HN.1; have HN2 := Aside0.mk HN.2; clear HN ho hb hg hat)
              go_roundw
              case rel => exact ⟨k + 1, _, _, by omega, rfl, by go_num, HN1, HN2⟩
              case measure => simp [intOf]; omega
        · obtain rfl : n = k := by omega
          obtain ⟨Au, cu, rfl⟩ := Kd.R_slice HU.out
          have hCu := (Kd.R_reads' HU.out).2.2
          rw [List.length_map, List.length_range] at hCu ⊢
          have HRU : Aside0 (∀ k, k < n → ∃ ad c2, Au = some ad ∧ wr.cell? (ad.add k) = some (.slice (gs k).1 (len k + 64) c2)) := ⟨fun k hn => by
            obtain ⟨ad, e, hc⟩ := at_kh hCu k hn (gs k) (by simp [hn])
            exact ⟨ad, (gs k).2.2, e, by rw [hc]; simp only [hv]; rw [(HS.out.news k hn).1]⟩⟩
          have hrd : ∀ (k m M : Nat), m < M → rd (mks marki64 k M) (m : Int) = marki64 k m := fun k m M hm => by simp [rd, List.getD_eq_getElem?_getD, mks_get hm]
          have HN : Aside0 (∀ k m, k < n → m < len k + 64 → ∃ ad, (gs k).1 = some ad ∧ wr.cell? (ad.add m) = some (.int .i64 (marki64 k m))) := ⟨fun k m hn hm => by
            obtain ⟨ad, e, hc⟩ := Kd.at_int (Kd.F_now (HS.out.news k hn).2) (m : Int) (by omega) (by omega)
            exact ⟨ad, e, by rw [hrd k m _ hm] at hc; exact hc⟩⟩
          have HD : Aside0 (∀ k m, k < n → m < len k → ∃ ad, (vs k).1 = some ad ∧ wr.cell? (ad.add m) = some (.int .i64 (marki64 k m))) := ⟨fun k m hn hm => by
            obtain ⟨ad, e, hc⟩ := Kd.at_int (Kd.F_now (HS.out.olds k hn)) (m : Int) (by omega) (by omega)
            exact ⟨ad, e, by rw [hrd k m _ hm] at hc; exact hc⟩⟩
          have HEnd : Aside0 (Below w0.heap.size w0 wr ∧ Kept w wr (Own vs n)) := ⟨HS.out.below, HS.out.kept⟩
          clear hCu hrd HS HU
          go_wp2_with fail
          go_loop [9] (fun i => ∃ k : Nat, k ≤ n ∧ i = .int .i64 k) (fun i => n - (intOf i).toNat)
          case atStart => exact ⟨0, by omega, rfl⟩
          case round =>
            obtain ⟨k, hk, rfl⟩ := hrel
            by_cases hlt : k < n
            · have hz := HZ.out k hlt
              obtain ⟨ad, rfl, h0⟩ := HRD.out wr k HEnd.out.2 hlt
              obtain ⟨au, c2, rfl, h1⟩ := HRU.out k hlt
              obtain ⟨Ak, ck, hvk⟩ := HVL.out k hlt
              have HV := Aside0.mk hvk
              rw [hvk] at h0
              simp only [hv] at h0
              clear hvk
              go_wp2_with fail
              go_loop [10] (fun i => ∃ m : Nat, m ≤ len k + 64 ∧ i = .int .i64 m) (fun i => len k + 64 - (intOf i).toNat)
              case atStart => exact ⟨0, by omega, rfl⟩
              case round =>
                obtain ⟨m, hm, rfl⟩ := hrel
                by_cases hml : m < len k + 64
                · obtain ⟨a1, e1, g1⟩ := HN.out k m hlt hml
                  rw [e1] at h1
                  simp only [marki64] at g1
                  by_cases hmo : m < len k
                  · obtain ⟨a2, e2, g2⟩ := HD.out k m hlt hmo
                    rw [HV.out] at e2
                    simp only at e2
                    subst e2
                    simp only [marki64] at g2
                    clear e1
                    go_wp2_with fail
                    go_round
                    case rel => exact ⟨m + 1, by omega, by go_num⟩
                    case measure => simp [intOf]; omega
                  · clear e1
                    go_wp2_with fail
                    go_round
                    case rel => exact ⟨m + 1, by omega, by go_num⟩
                    case measure => simp [intOf]; omega
                · go_wp2
                  go_round
                  case rel => exact ⟨k + 1, by omega, by go_num⟩
                  case measure => simp [intOf]; omega
            · go_wp2
              go_ret
              exact ⟨rfl, HEnd.out.1, HEnd.out.2⟩
end Go.Proofs.Ytjeaojolhdfpeaa.Fam
