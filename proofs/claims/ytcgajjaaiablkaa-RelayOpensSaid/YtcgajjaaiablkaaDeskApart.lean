/- The law kit's ApartTexts: of rows of texts that lie apart it answers true. -/
import Derived.Test.YtcgajjaaiablkaaFam
import Derived.Test.YtcgajjaaiablkaaPRelayOpensx0
import Derived.Test.YtcgajjaaiablkaaPRelayOpensx1
import Derived.Test.YtcgajjaaiablkaaPRelayOpensx2
import Derived.Test.YtcgajjaaiablkaaPRelayOpensx3
import Derived.Deep.RegionWith
namespace Go.Proofs.Ytcgajjaaiablkaa.DeskApart
open Go.RowKit Go.Proofs.YtcgajjaaiablkaaW.PrintWords Go.Proofs.YtcgajjaaiablkaaW.PrintLast Go.Proofs.YtcgajjaaiablkaaW.PrintMore Go.Proofs.Ytcgajjaaiablkaa.Grow Go.Proofs.Ytcgajjaaiablkaa.Fam Go.Proofs.Ytcgajjaaiablkaa.PRelayOpens
set_option linter.unusedVariables false
set_option linter.unusedSimpArgs false

theorem infoT32 : (Try.prog.info? 22).map (fun i => (i.zero, i.size, i.bytes)) = some (some (.slice none 0 0), 1, 24) := by kernel_rfl
theorem infoT1 : (Try.prog.info? 9).map (fun i => (i.zero, i.size, i.bytes)) = some (some (.string ⟨#[]⟩), 1, 16) := by kernel_rfl
theorem at_kh {W : World} {A : Option Addr} {n : Nat} {l : List HS} (h : kh.C W A n l) (i : Nat) (hi : i < n) (x : HS) (hx : l[i]? = some x) : ∃ ad, A = some ad ∧ W.cell? (ad.add i) = some (hv x) := by
  obtain ⟨ad, c, e, _, hK, hc0⟩ := Kd.C_get h ((none, 0, 0) : HS) (i : Int) (by omega) (by omega)
  have hc : ∀ j u, c[j]? = some u → W.cell? (ad.add (i * 1 + j)) = some u := hc0
  have hgx : l.getD (i : Int).toNat (none, 0, 0) = x := by simp [List.getD_eq_getElem?_getD, hx]
  rw [hgx] at hK
  have hKc : c = [hv x] := hK
  subst hKc
  exact ⟨ad, e, by have hq := hc 0 _ rfl; rwa [Nat.mul_one, Nat.add_zero] at hq⟩
def markI (k i : Int) : ByteArray := strOfNums [35, k % 256, (k / 256) % 256, i % 256, (i / 256) % 256]
def markT (k i : Nat) : ByteArray := markI k i
theorem mark_calls (k i : Int) (w : World) : Calls Try.prog 28 #[.int .i64 k, .int .i64 i] w fun e w' => e = .returned (.string (markI k i)) ∧ Below w.heap.size w w' := portagekit_markText.calls k i _ w rfl
theorem p1_on {d : Kd ByteArray} {e n k : Nat} {w0 w W w1 : World} {vs : Nat → HS} {len : Nat → Nat} {mk : Nat → Nat → ByteArray} {xs : Nat → List ByteArray} (h : P1 d e w0 w vs n len mk W k xs) (hb : Below W.heap.size W w1) : P1 d e w0 w vs n len mk w1 k xs := by
  have hg : W.grownBy w1 none := ⟨hb.os, hb.tape, hb.output, hb.size, fun k hk _ => hb.block k hk⟩
  exact ⟨below_then h.below h.below.size hb, Kept.of_grown hg h.kept (fun b hb => by cases hb), fun j hj => Kd.R_below (h.rows j hj) hb, h.size, h.done⟩
theorem cell_of {enc : ByteArray → Value} {h1 : ∀ x, (enc x).oneCell' = true} {W : World} {A : Option Addr} {n : Nat} {l : List ByteArray} (h : (Kd.scalar enc h1).C W A n l) (i : Nat) (hi : i < n) (x : ByteArray) (hx : l[i]? = some x) : ∃ ad, A = some ad ∧ W.cell? (ad.add i) = some (enc x) := by
  obtain ⟨ad, c, e, _, hK, hc0⟩ := Kd.C_get h (⟨#[]⟩ : ByteArray) (i : Int) (by omega) (by omega)
  have hc : ∀ j u, c[j]? = some u → W.cell? (ad.add (i * 1 + j)) = some u := hc0
  have hgx : l.getD (i : Int).toNat ⟨#[]⟩ = x := by simp [List.getD_eq_getElem?_getD, hx]
  rw [hgx] at hK
  have hKc : c = [enc x] := hK
  subst hKc
  exact ⟨ad, e, by have hq := hc 0 _ rfl; rwa [Nat.mul_one, Nat.add_zero] at hq⟩
/-- What it leaves. -/
def Told (w0 w : World) (vs : Nat → HS) (n : Nat) (e : Ending) (w' : World) : Prop := e = .returned (.bool true) ∧ Below w0.heap.size w0 w' ∧ Kept w w' (Own vs n)
set_option maxHeartbeats 8000000 in
set_option maxRecDepth 100000 in
theorem apartTexts_calls (A : Option Addr) (n c : Nat) (vs : Nat → HS) (len : Nat → Nat) (xs : Nat → List ByteArray) (w0 w : World) (hG : Given Kd.string 9 w0 w vs n xs) (hl : ∀ j, j < n → (xs j).length = len j) (hls : ∀ W', Kept w W' (Own vs n) → kh.C W' A n ((List.range n).map vs))
    (hsz : ∀ j, j < n → (len j + 64) * 16 ≤ 140737488355328) (hnsz : n * 24 ≤ 140737488355328) :
    Calls Try.prog 11 #[.slice A n c] w (Told w0 w vs n) := by
  obtain ⟨i0, hi0, hi1, hi2, hi3⟩ := info_parts infoT32
  obtain ⟨j0, hj0, hj1, hj2, hj3⟩ := info_parts infoT1
  have HG := Aside0.mk hG
  have HL := Aside0.mk hl
  have HO := Aside0.mk hls
  have HZ := Aside0.mk hsz
  have H1 := Aside0.mk (P1.start (mk := markT) hG hl)
  have hw0 : w0.heap.size ≤ w.heap.size := hG.below.size
  have HVL : Aside0 (∀ j, j < n → ∃ Aj cj, vs j = (Aj, len j, cj)) := ⟨fun j hj => by
    have h1 := (Kd.R_reads' (A := (vs j).1) (n := (vs j).2.1) (c := (vs j).2.2) (hG.rows j hj)).1
    rw [hl j hj] at h1
    exact ⟨(vs j).1, (vs j).2.2, by rw [← h1]⟩⟩
  have HRD : Aside0 (∀ W' k, Kept w W' (Own vs n) → k < n → ∃ ad, A = some ad ∧ W'.cell? (ad.add k) = some (hv (vs k))) := ⟨fun W' k hk hn => at_kh (hls W' hk) k hn (vs k) (by simp [hn])⟩
  clear hG hl hls hsz
  go_enter Try.func11, Try.ntmps11
  go_wp2_with fail
  go_loopw [3] (fun k wr => ∃ (i : Nat) (ys : Nat → List ByteArray), i ≤ n ∧ k = .int .i64 i ∧ Aside0 (P1 Kd.string 9 w0 w vs n len markT wr i ys)) (fun k _ => n - (intOf k).toNat)
  case atStart => exact ⟨0, xs, by omega, rfl, H1⟩
  case round =>
    clear H1
    obtain ⟨k, ys, hk, rfl, HS⟩ := hrel
    by_cases hlt : k < n
    · have hz := HZ.out k hlt
      obtain ⟨Ak, ck, hvk⟩ := HVL.out k hlt
      obtain ⟨ad, rfl, _⟩ := HRD.out wr k HS.out.kept hlt
      go_wp2_with fail
      go_loopw [4] (fun i wi => ∃ (m : Nat) (ys : Nat → List ByteArray), m ≤ len k ∧ i = .int .i64 m ∧ Aside0 (P1 Kd.string 9 w0 w vs n len markT wi k ys) ∧ Aside0 (Pre markT k m (ys k))) (fun i _ => len k - (intOf i).toNat)
      case atStart => exact ⟨0, ys, by omega, rfl, HS, ⟨pre_zero _⟩⟩
      case round =>
        clear HS
        obtain ⟨m, ys, hm, rfl, HS, HP⟩ := hrel
        obtain ⟨ad2, h2, h0⟩ := HRD.out wr k HS.out.kept hlt
        cases h2
        rw [hvk] at h0
        simp only [hv] at h0
        by_cases hml : m < len k
        · have hR := HS.out.rows k hlt
          have hyl := HS.out.size k hlt
          rw [hvk] at hR
          simp only [hv] at hR
          obtain ⟨g, cap, he, hge, _, _⟩ := Kd.R_form hR (by omega)
          injection he with he1 he2 he3
          subst he1; subst he3
          obtain ⟨hc0, hf0⟩ := Kd.R_celln (enc := Value.string) (h1 := fun _ => rfl) (⟨#[]⟩ : ByteArray) hR (m : Int) (by omega) (by omega)
          simp only [Int.toNat_natCast] at hc0 hf0
          obtain ⟨ov, hov⟩ : ∃ ov, wr.cell? ⟨g, m, none⟩ = some ov := ⟨_, hc0⟩
          have HC1 : Aside0 (∀ w1, Below wr.heap.size wr w1 → w1.cell? (ad.add k) = some (.slice (some ⟨g, 0, none⟩) (len k) ck) ∧ w1.cell? ⟨g, m, none⟩ = some ov ∧ w1.frozen? ⟨g, m, none⟩ = false) := ⟨fun w1 hb => by
            have h1 := Kd.R_celln (enc := Value.string) (h1 := fun _ => rfl) (⟨#[]⟩ : ByteArray) (Kd.R_below hR hb) (m : Int) (by omega) (by omega)
            simp only [Int.toNat_natCast] at h1
            exact ⟨pw_cell_below hb h0, pw_cell_below hb hov, h1.2⟩⟩
          have HPut : Aside0 (∀ w1, Below wr.heap.size wr w1 → Kd.string.R 9 (w1.setCell ⟨g, m, none⟩ (.string (markT k m))) w0.heap.size (Tight (.slice (some ⟨g, 0, none⟩) (len k) ck)) (.slice (some ⟨g, 0, none⟩) (len k) ck) ((ys k).set m (markT k m)) ∧ w1.grownBy (w1.setCell ⟨g, m, none⟩ (.string (markT k m))) (some g)) := ⟨fun w1 hb => by
            have hput := Kd.R_putg (enc := Value.string) (h1 := fun _ => rfl) (Kd.R_below hR hb) (m : Int) (markT k m)
            simp only [Int.toNat_natCast] at hput
            exact hput⟩
          have HV := Aside0.mk hvk
          have hyl2 := Aside0.mk hyl
          have hkc : Aside0 (markI k m = markT k m) := ⟨rfl⟩
          clear hR he2 hyl hvk hc0
          go_wp2_with fail
          go_region_with (go_at_call 28; refine (mark_calls k m _).mono ?_; rintro e w1 ⟨rfl, hb0⟩; have hb := below_step (below_drew (Below.refl _ wr)) hb0; clear hb0; obtain ⟨c1, c2, c3⟩ := HC1.out _ hb; have HBd := Aside0.mk hb; clear hb)
          all_goals (
            go_wp2_with fail
            go_roundw
            case rel =>
              refine ⟨m + 1, _, by omega, by go_num, ⟨(p1_on HS.out HBd.out).store HG.out hlt (i := m) (x' := markT k m) ?_ (below_set (below_then HS.out.below HS.out.below.size HBd.out) hge) ?_⟩, ⟨?_⟩⟩
              · rw [HV.out]
                exact (HPut.out _ HBd.out).1
              · rw [HV.out]
                exact (HPut.out _ HBd.out).2
              · simp only [if_pos]
                exact pre_set HP.out (by rw [hyl2.out]; exact hml)
            case measure => simp [intOf]; omega)
        · obtain rfl : m = len k := by omega
          clear hvk
          go_wp2
          go_roundw
          case rel => exact ⟨k + 1, ys, by omega, by go_num, ⟨HS.out.next hlt HP.out⟩⟩
          case measure => simp [intOf]; omega
    · obtain rfl : n = k := by omega
      have H2 := Aside0.mk (P2.start (gs := fun _ => (none, 0, 0)) HS.out)
      have H3 := Aside0.mk (Outer.start (et := 22) (w0 := w0) (w := w) (W := wr) (gs := fun _ => (none, 0, 0)))
      clear HS
      go_wp2_with fail
      go_loopw [5, 6] (fun q i wr => ∃ (k : Nat) (gs : Nat → HS) (u : Value), k ≤ n ∧ u = q ∧ i = .int .i64 k ∧ Aside0 (P2 Kd.string 9 w0 w vs n len markT wr k k gs) ∧ Aside0 (Outer 22 w0 w wr k gs u)) (fun _ i _ => n - (intOf i).toNat)
      case atStart => exact ⟨0, _, _, by omega, rfl, rfl, H2, H3⟩
      case round =>
        clear H2 H3
        obtain ⟨k, gs, u, hk, rfl, rfl, HS, HU⟩ := hrel
        by_cases hlt : k < n
        · obtain ⟨ad, rfl, h0⟩ := HRD.out _ k HS.out.kept hlt
          have hz := HZ.out k hlt
          obtain ⟨Ak, ck, hvk⟩ := HVL.out k hlt
          have HV := Aside0.mk hvk
          rw [hvk] at h0
          simp only [hv] at h0
          have H3 := Aside0.mk (P3.start HS.out HU.out hlt)
          rw [hvk] at H3
          simp only [hv] at H3
          clear hvk
          go_wp2_with fail
          clear h0
          go_loopw [7, 8] (fun q i wi => ∃ (m : Nat) (v : Value), m ≤ 64 ∧ v = q ∧ i = .int .i64 m ∧ Aside0 (P3 Kd.string 9 22 w0 w vs n len markT wi k m gs u v)) (fun _ i _ => 64 - (intOf i).toNat)
          case atStart => exact ⟨0, _, by omega, rfl, rfl, H3⟩
          case round =>
            clear H3 HS HU
            obtain ⟨m, v, hm, rfl, rfl, HS⟩ := hrel
            by_cases hm64 : m < 64
            · obtain ⟨ad2, h2, h0⟩ := HRD.out _ k HS.out.fam.kept hlt
              cases h2
              rw [HV.out] at h0
              simp only [hv] at h0
              have hw1 : w0.heap.size ≤ wr.heap.size := HS.out.fam.below.size
              have hsv : markT k (len k + m) = markI (k : Int) ((len k : Int) + (m : Int)) := by simp only [markT]; push_cast; rfl
              go_wp2_with (first | (go_at_call 28; refine (mark_calls _ _ _).mono ?_; rintro e w1 ⟨rfl, hb⟩; have HS0 := Aside0.mk (HS.out.below hb hw1 (Nat.le_of_lt hlt)); have hw2 := Nat.le_trans hw1 hb.size; clear hb) | (at_builtin; refine append_keep Kd.string (w0 := w0) w0.heap.size rfl (.tmp 50) (.tmp 60) 22 9 (.string ⟨#[]⟩) 16 rfl Try.underlying22 infoT1 rfl Nat.one_pos (by decide) v (mks markT k (len k + m)) (markT k (len k + m)) [.string (markI (k : Int) ((len k : Int) + (m : Int)))] (fun b => w0.heap.size ≤ b) (fun _ => False) rfl rfl (by rw [hsv]; rfl) (fun _ hk => hk.elim) (fun b hb => Nat.le_trans hw2 hb) (Kd.R_reok rfl HS0.out.row (fun b hb => Kd.R_base HS0.out.row b hb)) HS0.out.fam.below hw2 (by rw [mks_length]; omega) ?_; intro v1 w1 ho hb hg hat; have HS1 := Aside0.mk (HS0.out.grow rfl Nat.one_pos HG.out HL.out hlt ho hb hg hat); clear ho hb hg hat))
              go_roundw
              case rel => exact ⟨m + 1, _, by omega, rfl, by go_num, HS1⟩
              case measure => simp [intOf]; omega
            · obtain rfl : m = 64 := by omega
              obtain ⟨Av, cv, rfl⟩ := Kd.R_slice HS.out.row
              have hw1 : w0.heap.size ≤ wr.heap.size := HS.out.fam.below.size
              go_wp2_with (at_builtin; refine Kd.R_append kh (w0 := w0) w0.heap.size rfl (.tmp 62) (.tmp 64) 31 22 (.slice none 0 0) 24 rfl Try.underlying31 infoT32 rfl Nat.one_pos (by decide) u ((List.range k).map gs) (Av, _, cv) [.slice Av _ cv] (fun b => w0.heap.size ≤ b) (fun _ => False) rfl rfl rfl (fun _ hk => hk.elim) (fun b hb => Nat.le_trans hw1 hb) (Kd.R_reok rfl HS.out.outer (fun b hb => Kd.R_base HS.out.outer b hb)) HS.out.fam.below hw1 (by simp; omega) ?_; intro u1 w1 ho hb hg hat; have HN := HS.out.done rfl Nat.one_pos HG.out HL.out hlt (by decide) ho hb hg hat; have HN1 := Aside0.mk HN.1; have HN2 := Aside0.mk HN.2; clear HN ho hb hg hat)
              go_roundw
              case rel => exact ⟨k + 1, _, _, by omega, rfl, by go_num, HN1, HN2⟩
              case measure => simp [intOf]; omega
        · obtain rfl : n = k := by omega
          obtain ⟨Au, cu, rfl⟩ := Kd.R_slice HU.out
          have hCu := (Kd.R_reads' HU.out).2.2
          rw [List.length_map, List.length_range] at hCu ⊢
          have HRU : Aside0 (∀ k, k < n → ∃ ad c2, Au = some ad ∧ wr.cell? (ad.add k) = some (.slice (gs k).1 (len k + 64) c2)) := ⟨fun k hn => by
            obtain ⟨ad, e, hc⟩ := at_kh hCu k hn (gs k) (by simp [hn])
            exact ⟨ad, (gs k).2.2, e, by rw [hc]; simp only [hv]; rw [(HS.out.news k hn).1]⟩⟩
          have HT0 : (∀ k, k < n → ∃ ad c2, Au = some ad ∧ wr.cell? (ad.add k) = some (.slice (gs k).1 (len k + 64) c2)) ∧ (∀ k m, k < n → m < len k + 64 → ∃ ad, (gs k).1 = some ad ∧ wr.cell? (ad.add m) = some (.string (markT k m))) ∧ (∀ k m, k < n → m < len k → ∃ ad, (vs k).1 = some ad ∧ wr.cell? (ad.add m) = some (.string (markT k m))) :=
            ⟨HRU.out, fun k m hn hm => cell_of (enc := Value.string) (h1 := fun _ => rfl) (Kd.F_now (HS.out.news k hn).2) m hm _ (mks_get hm), fun k m hn hm => cell_of (enc := Value.string) (h1 := fun _ => rfl) (Kd.F_now (HS.out.olds k hn)) m hm _ (mks_get hm)⟩
          obtain ⟨St, hSt⟩ : ∃ St : World → Prop, St = fun w2 => Below wr.heap.size wr w2 := ⟨_, rfl⟩
          have HSt0 : Aside0 (St wr) := ⟨by rw [hSt]; exact Below.refl _ _⟩
          have HStep : Aside0 (∀ w2 w3, St w2 → Below w2.heap.size w2 w3 → St w3) := ⟨fun w2 w3 h hb => by rw [hSt] at h ⊢; exact below_step h hb⟩
          have HT : Aside0 (∀ w2, St w2 → (Below w0.heap.size w0 w2 ∧ Kept w w2 (Own vs n)) ∧ (∀ k, k < n → ∃ ad c2, Au = some ad ∧ w2.cell? (ad.add k) = some (.slice (gs k).1 (len k + 64) c2)) ∧ (∀ k m, k < n → m < len k + 64 → ∃ ad, (gs k).1 = some ad ∧ w2.cell? (ad.add m) = some (.string (markT k m))) ∧ (∀ k m, k < n → m < len k → ∃ ad, (vs k).1 = some ad ∧ w2.cell? (ad.add m) = some (.string (markT k m)))) := ⟨fun w2 h => by
            rw [hSt] at h
            have hb : Below wr.heap.size wr w2 := h
            obtain ⟨t1, t2, t3⟩ := HT0
            refine ⟨⟨below_then HS.out.below HS.out.below.size hb, Kept.of_grown (⟨hb.os, hb.tape, hb.output, hb.size, fun k hk _ => hb.block k hk⟩ : wr.grownBy w2 none) HS.out.kept (fun b hb => by cases hb)⟩, ?_, ?_, ?_⟩
            · intro k hk
              obtain ⟨ad, c2, e1, e2⟩ := t1 k hk
              exact ⟨ad, c2, e1, pw_cell_below hb e2⟩
            · intro k m hk hm
              obtain ⟨ad, e1, e2⟩ := t2 k m hk hm
              exact ⟨ad, e1, pw_cell_below hb e2⟩
            · intro k m hk hm
              obtain ⟨ad, e1, e2⟩ := t3 k m hk hm
              exact ⟨ad, e1, pw_cell_below hb e2⟩⟩
          clear hCu HS HU HT0 HRU hSt
          go_wp2_with fail
          go_loopw [9] (fun i w2 => ∃ k : Nat, k ≤ n ∧ i = .int .i64 k ∧ Aside0 (St w2)) (fun i _ => n - (intOf i).toNat)
          case atStart => exact ⟨0, by omega, rfl, HSt0⟩
          case round =>
            clear HSt0
            obtain ⟨k, hk, rfl, HB⟩ := hrel
            by_cases hlt : k < n
            · have hz := HZ.out k hlt
              obtain ⟨Ak, ck, hvk⟩ := HVL.out k hlt
              have HV := Aside0.mk hvk
              clear hvk
              go_wp2_with fail
              go_loopw [10] (fun i w2 => ∃ m : Nat, m ≤ len k + 64 ∧ i = .int .i64 m ∧ Aside0 (St w2)) (fun i _ => len k + 64 - (intOf i).toNat)
              case atStart => exact ⟨0, by omega, rfl, HB⟩
              case round =>
                clear HB
                obtain ⟨m, hm, rfl, HB⟩ := hrel
                obtain ⟨hE, hRU, hN, hD⟩ := HT.out _ HB.out
                obtain ⟨ad, rfl, h0⟩ := HRD.out wr k hE.2 hlt
                obtain ⟨au, c2, rfl, h1⟩ := hRU k hlt
                rw [HV.out] at h0
                simp only [hv] at h0
                by_cases hml : m < len k + 64
                · obtain ⟨a1, e1, g1⟩ := hN k m hlt hml
                  rw [e1] at h1
                  simp only [markT] at g1
                  by_cases hmo : m < len k
                  · obtain ⟨a2, e2, g2⟩ := hD k m hlt hmo
                    rw [HV.out] at e2
                    simp only at e2
                    subst e2
                    simp only [markT] at g2
                    clear e1 hE hRU hN hD
                    go_wp2_with (go_at_call 28; refine (mark_calls k m _).mono ?_; rintro e w1 ⟨rfl, hb⟩; have h0b := pw_cell_below hb h0; have h1b := pw_cell_below hb h1; have g1b := pw_cell_below hb g1; have g2b := pw_cell_below hb g2; have HB1 := Aside0.mk (HStep.out _ _ HB.out hb); clear hb)
                    go_roundw
                    case rel => exact ⟨m + 1, by omega, by go_num, HB1⟩
                    case measure => simp [intOf]; omega
                  · clear e1 hE hRU hN hD
                    go_wp2_with (go_at_call 28; refine (mark_calls k m _).mono ?_; rintro e w1 ⟨rfl, hb⟩; have h0b := pw_cell_below hb h0; have h1b := pw_cell_below hb h1; have g1b := pw_cell_below hb g1; have HB1 := Aside0.mk (HStep.out _ _ HB.out hb); clear hb)
                    go_roundw
                    case rel => exact ⟨m + 1, by omega, by go_num, HB1⟩
                    case measure => simp [intOf]; omega
                · clear hE hRU hN hD
                  go_wp2
                  go_roundw
                  case rel => exact ⟨k + 1, by omega, by go_num, HB⟩
                  case measure => simp [intOf]; omega
            · have HE := Aside0.mk (HT.out _ HB.out).1
              go_wp2
              go_ret
              exact ⟨rfl, HE.out.1, HE.out.2⟩
end Go.Proofs.Ytcgajjaaiablkaa.DeskApart
