/- Law 18's apart: of rows of spots that lie apart it answers true. -/
import Derived.Test.YtjeaojolhdfpeaaFam
import Derived.Test.YtjeaojolhdfpeaaMergeJ
namespace Go.Proofs.Ytjeaojolhdfpeaa.Fam
open Go.RowKit Go.Proofs.YtjeaojolhdfpeaaW.PrintWords Go.Proofs.YtjeaojolhdfpeaaW.PrintLast Go.Proofs.YtjeaojolhdfpeaaW.PrintMore Go.Proofs.Ytjeaojolhdfpeaa.Grow
open Go.Proofs.Ytjeaojolhdfpeaa.PProfileMemory Go.Proofs.Ytjeaojolhdfpeaa.BookB Go.Proofs.Ytjeaojolhdfpeaa.BookP Go.Proofs.Ytjeaojolhdfpeaa.MergeP Go.Proofs.Ytjeaojolhdfpeaa.MergeJ
set_option linter.unusedVariables false
set_option linter.unusedSimpArgs false

theorem at_kh {W : World} {A : Option Addr} {n : Nat} {l : List HS} (h : kh.C W A n l) (i : Nat) (hi : i < n) (x : HS) (hx : l[i]? = some x) : ∃ ad, A = some ad ∧ W.cell? (ad.add i) = some (hv x) := by
  obtain ⟨ad, c, e, _, hK, hc0⟩ := Kd.C_get h ((none, 0, 0) : HS) (i : Int) (by omega) (by omega)
  have hc : ∀ j u, c[j]? = some u → W.cell? (ad.add (i * 1 + j)) = some u := hc0
  have hgx : l.getD (i : Int).toNat (none, 0, 0) = x := by simp [List.getD_eq_getElem?_getD, hx]
  rw [hgx] at hK
  have hKc : c = [hv x] := hK
  subst hKc
  exact ⟨ad, e, by have hq := hc 0 _ rfl; rwa [Nat.mul_one, Nat.add_zero] at hq⟩
def markS (k i : Nat) : S28 := ⟨k, 0, 0, i⟩
theorem eqA28 (d : Nat) (w : World) (x0 y0 : Int) (x1 y1 : Int) (x2 y2 : Int) (x3 y3 : Int) :
    (Op.equalIn (d + 2) 28 (.agg #[.int .i64 x0, .int .u16 x1, .int .u16 x2, .int .i64 x3]) (.agg #[.int .i64 y0, .int .u16 y1, .int .u16 y2, .int .i64 y3])).run Try.prog w = .ok (x0 == y0 && (x1 == y1 && (x2 == y2 && (x3 == y3)))) w := by
  refine eqA_of Try.underlying28 (by kernel_rfl) ?_
  refine eqf_cons (by rfl) (by go_simp; rfl) (by go_simp; rfl) (by go_simp) ?_
  refine eqf_cons (by rfl) (by go_simp; rfl) (by go_simp; rfl) (by go_simp) ?_
  refine eqf_cons (by rfl) (by go_simp; rfl) (by go_simp; rfl) (by go_simp) ?_
  exact eqf_last (by rfl) (by go_simp; rfl) (by go_simp; rfl) (by go_simp)
/-- The four cells of a spot. -/
def SC (W : World) (p : Addr) (s : S28) : Prop := W.cell? p = some (.int .i64 s.f0) ∧ W.cell? ⟨p.block, p.off + 1, none⟩ = some (.int .u16 s.f1) ∧ W.cell? ⟨p.block, p.off + 2, none⟩ = some (.int .u16 s.f2) ∧ W.cell? ⟨p.block, p.off + 3, none⟩ = some (.int .i64 s.f3)
theorem SC.below {W W1 : World} {p : Addr} {s : S28} (h : SC W p s) (hb : Below W.heap.size W W1) : SC W1 p s :=
  ⟨pw_cell_below hb h.1, pw_cell_below hb h.2.1, pw_cell_below hb h.2.2.1, pw_cell_below hb h.2.2.2⟩
theorem mark_at {W : World} {A : Option Addr} {k m M : Nat} (h : Kd.C k28 W A M (mks markS k M)) (hm : m < M) : ∃ ad, A = some ad ∧ SC W (ad.add (m * 4)) (markS k m) := by
  obtain ⟨ad, e, h0, h1, h2, h3⟩ := at_T28 h (m : Int) (by omega) (by omega)
  have hrd : rd_T28 (mks markS k M) (m : Int) = markS k m := by simp [rd_T28, List.getD_eq_getElem?_getD, mks_get hm]
  simp only [hrd, Int.toNat_natCast] at h0 h1 h2 h3
  exact ⟨ad, e, h0, h1, h2, h3⟩
theorem mark_M (k l m : Nat) {base : Nat} (W : World) (ok : Nat → Prop) : k28.M W base ok (markS k (l + m)) [.int .i64 (k : Int), .int .u16 0, .int .u16 0, .int .i64 ((l : Int) + (m : Int))] := by
  have h := k28_mkM W base ok (markS k (l + m))
  have e : ((l + m : Nat) : Int) = (l : Int) + (m : Int) := by omega
  simp only [markS] at h ⊢
  rwa [e] at h
section
variable {P : Program} {ops : Array Oper} {rest : List Oper} {o : Oper} {a : Act} {Q : Exit → Act → World → Prop}
theorem wpList_skip {W W1 : World} (hg : o.guard = none) (hd : o.dst = none) (hrun : (execOp a.eval o).run P W = .ok .skip W1) (h : wpList P ops Q rest a W1) : wpList P ops Q (o :: rest) a W := by
  refine wpList_plain hg fun K hK => ?_
  unfold Oper.wp
  rw [hrun]
  have h2 := hK _ _ h
  show K (a.put o.dst undef) W1
  rw [hd]
  exact h2
end
attribute [local go_sem high] eqA28
/-- What it leaves. -/
def Told (w0 w : World) (vs : Nat → HS) (n : Nat) (e : Ending) (w' : World) : Prop := e = .returned (.bool true) ∧ Below w0.heap.size w0 w' ∧ Kept w w' (Own vs n)
def r41_25_T : Bool × List (List Nat × List Nat) := (true, [([], []), ([], []), ([0, 1], [0, 1]), ([2], [2]), ([], []), ([3, 4], [3, 4]), ([5], [5]), ([], []), ([6, 7], [6, 7]), ([8], [8]), ([9], [9]), ([9], [9]), ([9], [9]), ([11, 12, 9], [9, 11, 12]), ([13, 9], [9, 13]), ([14, 9], [9, 14]), ([10, 15, 9], [9, 10, 15]), ([16, 9, 9], [9, 16]), ([17], [17]), ([17], [17]), ([18, 19, 17], [17, 18, 19]), ([20, 17], [17, 20]), ([17], [17]), ([21, 22, 17], [17, 21, 22]), ([23, 17], [17, 23]), ([17], [17]), ([24, 25, 17], [17, 24, 25]), ([17, 26, 9], [9, 17, 26]), ([9, 27], [9, 27])])
def r41_25_B : List Nat := [0, 0, 3, 7, 0, 31, 63, 0, 255, 511, 1023, 1023, 1023, 7167, 15359, 31743, 65535, 131071, 262143, 262143, 1048575, 2097151, 262143, 8388607, 16777215, 262143, 67108863, 134217727, 268435455]
theorem r41_25_tab : rtab .any (opsOf Try.f41 25) = r41_25_T := by kernel_rfl
theorem r41_25_bits : waitsOk r41_25_T.2 r41_25_B = true := by kernel_rfl
set_option maxHeartbeats 16000000 in
set_option maxRecDepth 100000 in
theorem apart_calls (A : Option Addr) (n c : Nat) (vs : Nat → HS) (len : Nat → Nat) (xs : Nat → List S28) (w0 w : World) (hG : Given k28 28 w0 w vs n xs) (hl : ∀ j, j < n → (xs j).length = len j) (hls : ∀ W', Kept w W' (Own vs n) → kh.C W' A n ((List.range n).map vs))
    (hsz : ∀ j, j < n → (len j + 64) * 24 ≤ 140737488355328) (hnsz : n * 24 ≤ 140737488355328) :
    Calls Try.prog 41 #[.slice A n c] w (Told w0 w vs n) := by
  obtain ⟨i0, hi0, hi1, hi2, hi3⟩ := info_parts info77_
  obtain ⟨j0, hj0, hj1, hj2, hj3⟩ := info_parts info28_
  have HG := Aside0.mk hG
  have HL := Aside0.mk hl
  have HO := Aside0.mk hls
  have HZ := Aside0.mk hsz
  have H1 := Aside0.mk (P1.start (mk := markS) hG hl)
  have hw0 : w0.heap.size ≤ w.heap.size := hG.below.size
  have HVL : Aside0 (∀ j, j < n → ∃ Aj cj, vs j = (Aj, len j, cj)) := ⟨fun j hj => by
    have h1 := (Kd.R_reads' (A := (vs j).1) (n := (vs j).2.1) (c := (vs j).2.2) (hG.rows j hj)).1
    rw [hl j hj] at h1
    exact ⟨(vs j).1, (vs j).2.2, by rw [← h1]⟩⟩
  have HRD : Aside0 (∀ W' k, Kept w W' (Own vs n) → k < n → ∃ ad, A = some ad ∧ W'.cell? (ad.add k) = some (hv (vs k))) := ⟨fun W' k hk hn => at_kh (hls W' hk) k hn (vs k) (by simp [hn])⟩
  clear hG hl hls hsz
  go_enter Try.func41, Try.ntmps41
  go_wp2_with fail
  go_loopw [3] (fun k wr => ∃ (i : Nat) (ys : Nat → List S28), i ≤ n ∧ k = .int .i64 i ∧ Aside0 (P1 k28 28 w0 w vs n len markS wr i ys)) (fun k _ => n - (intOf k).toNat)
  case atStart => exact ⟨0, xs, by omega, rfl, H1⟩
  case round =>
    clear H1
    obtain ⟨k, ys, hk, rfl, HS⟩ := hrel
    by_cases hlt : k < n
    · have hz := HZ.out k hlt
      obtain ⟨Ak, ck, hvk⟩ := HVL.out k hlt
      obtain ⟨ad, rfl, _⟩ := HRD.out wr k HS.out.kept hlt
      go_wp2_with fail
      go_loopw [4] (fun i wi => ∃ (m : Nat) (ys : Nat → List S28), m ≤ len k ∧ i = .int .i64 m ∧ Aside0 (P1 k28 28 w0 w vs n len markS wi k ys) ∧ Aside0 (Pre markS k m (ys k))) (fun i _ => len k - (intOf i).toNat)
      case atStart => exact ⟨0, ys, by omega, rfl, HS, ⟨pre_zero _⟩⟩
      case round =>
        clear HS
        obtain ⟨m, ys, hm, rfl, HS, HP⟩ := hrel
        obtain ⟨ad2, h2, h0⟩ := HRD.out wr k HS.out.kept hlt
        cases h2
        rw [hvk] at h0
        simp only [hv] at h0
        by_cases hml : m < len k
        · have hR := HS.out.rows k hlt
          have hyl := HS.out.size k hlt
          rw [hvk] at hR
          simp only [hv] at hR
          obtain ⟨g, cap, he, hge, _, _⟩ := Kd.R_form hR (by omega)
          injection he with he1 he2 he3
          subst he1; subst he3
          have HPut := Aside0.mk (row_put hR hml (markS k m))
          have HV := Aside0.mk hvk
          have hyl2 := Aside0.mk hyl
          clear hR he2 hyl hvk
          go_wp2_with (refine wpList_skip rfl rfl (HPut.out.1 (.tmp 35) (.tmp 34) rfl rfl rfl) ?_)
          go_roundw
          case rel =>
            refine ⟨m + 1, _, by omega, by go_num, ⟨HS.out.store HG.out hlt (i := m) (x' := markS k m) ?_ (HS.out.below.grown HPut.out.2.2 HS.out.below.size (fun k hk => by cases hk; exact hge)) ?_⟩, ⟨?_⟩⟩
            · rw [HV.out]
              exact HPut.out.2.1
            · rw [HV.out]
              exact HPut.out.2.2
            · simp only [if_pos]
              exact pre_set HP.out (by rw [hyl2.out]; exact hml)
          case measure => simp [intOf]; omega
        · obtain rfl : m = len k := by omega
          clear hvk
          go_wp2
          go_roundw
          case rel => exact ⟨k + 1, ys, by omega, by go_num, ⟨HS.out.next hlt HP.out⟩⟩
          case measure => simp [intOf]; omega
    · obtain rfl : n = k := by omega
      have H2 := Aside0.mk (P2.start (gs := fun _ => (none, 0, 0)) HS.out)
      have H3 := Aside0.mk (Outer.start (et := 77) (w0 := w0) (w := w) (W := wr) (gs := fun _ => (none, 0, 0)))
      clear HS
      go_wp2_with fail
      go_loopw [5, 6] (fun q i wr => ∃ (k : Nat) (gs : Nat → HS) (u : Value), k ≤ n ∧ u = q ∧ i = .int .i64 k ∧ Aside0 (P2 k28 28 w0 w vs n len markS wr k k gs) ∧ Aside0 (Outer 77 w0 w wr k gs u)) (fun _ i _ => n - (intOf i).toNat)
      case atStart => exact ⟨0, _, _, by omega, rfl, rfl, H2, H3⟩
      case round =>
        clear H2 H3
        obtain ⟨k, gs, u, hk, rfl, rfl, HS, HU⟩ := hrel
        by_cases hlt : k < n
        · obtain ⟨ad, rfl, h0⟩ := HRD.out _ k HS.out.kept hlt
          have hz := HZ.out k hlt
          obtain ⟨Ak, ck, hvk⟩ := HVL.out k hlt
          have HV := Aside0.mk hvk
          rw [hvk] at h0
          simp only [hv] at h0
          have H3 := Aside0.mk (P3.start HS.out HU.out hlt)
          rw [hvk] at H3
          simp only [hv] at H3
          clear hvk
          go_wp2_with fail
          clear h0
          go_loopw [7, 8] (fun q i wi => ∃ (m : Nat) (v : Value), m ≤ 64 ∧ v = q ∧ i = .int .i64 m ∧ Aside0 (P3 k28 28 77 w0 w vs n len markS wi k m gs u v)) (fun _ i _ => 64 - (intOf i).toNat)
          case atStart => exact ⟨0, _, by omega, rfl, rfl, H3⟩
          case round =>
            clear H3 HS HU
            obtain ⟨m, v, hm, rfl, rfl, HS⟩ := hrel
            by_cases hm64 : m < 64
            · obtain ⟨ad2, h2, h0⟩ := HRD.out _ k HS.out.fam.kept hlt
              cases h2
              rw [HV.out] at h0
              simp only [hv] at h0
              have hw1 : w0.heap.size ≤ wr.heap.size := HS.out.fam.below.size
              have HMK : Aside0 (∀ W' ok, k28.M W' w0.heap.size ok (markS k (len k + m)) [.int .i64 (k : Int), .int .u16 0, .int .u16 0, .int .i64 ((len k : Int) + (m : Int))]) := ⟨mark_M k (len k) m⟩
              have hwl : (len k : Int) + (m : Int) ≤ 9223372036854775807 := by omega
              go_wp2_with (at_builtin; refine append_keep k28 (w0 := w0) w0.heap.size rfl (.tmp 50) (.tmp 60) 77 28 (.agg #[.int .i64 0, .int .u16 0, .int .u16 0, .int .i64 0]) 24 rfl Try.underlying77 info28_ rfl (by decide) (by decide) v (mks markS k (len k + m)) (markS k (len k + m)) [.int .i64 (k : Int), .int .u16 0, .int .u16 0, .int .i64 ((len k : Int) + (m : Int))] (fun b => w0.heap.size ≤ b) (fun _ => False) rfl rfl (HMK.out _ _) (fun _ hk => hk.elim) (fun b hb => Nat.le_trans hw1 hb) (Kd.R_reok rfl HS.out.row (fun b hb => Kd.R_base HS.out.row b hb)) HS.out.fam.below hw1 (by have e := mks_length (mk := markS) (k := k) (m := len k + m); omega) ?_; intro v1 w1 ho hb hg hat; have HS1 := Aside0.mk (HS.out.grow rfl (by decide) HG.out HL.out hlt ho hb hg hat); clear ho hb hg hat)
              go_roundw
              case rel => exact ⟨m + 1, _, by omega, rfl, by go_num, HS1⟩
              case measure => simp [intOf]; omega
            · obtain rfl : m = 64 := by omega
              obtain ⟨Av, cv, rfl⟩ := Kd.R_slice HS.out.row
              have hw1 : w0.heap.size ≤ wr.heap.size := HS.out.fam.below.size
              go_wp2_with (at_builtin; refine Kd.R_append kh (w0 := w0) w0.heap.size rfl (.tmp 62) (.tmp 64) 22 77 (.slice none 0 0) 24 rfl Try.underlying22 info77_ rfl Nat.one_pos (by decide) u ((List.range k).map gs) (Av, _, cv) [.slice Av _ cv] (fun b => w0.heap.size ≤ b) (fun _ => False) rfl rfl rfl (fun _ hk => hk.elim) (fun b hb => Nat.le_trans hw1 hb) (Kd.R_reok rfl HS.out.outer (fun b hb => Kd.R_base HS.out.outer b hb)) HS.out.fam.below hw1 (by simp; omega) ?_; intro u1 w1 ho hb hg hat; have HN := HS.out.done rfl (by decide) HG.out HL.out hlt (by decide) ho hb hg hat; have HN1 := Aside0.mk HN.1; have HN2 := Aside0.mk HN.2; clear HN ho hb hg hat)
              go_roundw
              case rel => exact ⟨k + 1, _, _, by omega, rfl, by go_num, HN1, HN2⟩
              case measure => simp [intOf]; omega
        · obtain rfl : n = k := by omega
          obtain ⟨Au, cu, rfl⟩ := Kd.R_slice HU.out
          have hCu := (Kd.R_reads' HU.out).2.2
          rw [List.length_map, List.length_range] at hCu ⊢
          have HRU : Aside0 (∀ k, k < n → ∃ ad c2, Au = some ad ∧ wr.cell? (ad.add k) = some (.slice (gs k).1 (len k + 64) c2)) := ⟨fun k hn => by
            obtain ⟨ad, e, hc⟩ := at_kh hCu k hn (gs k) (by simp [hn])
            exact ⟨ad, (gs k).2.2, e, by rw [hc]; simp only [hv]; rw [(HS.out.news k hn).1]⟩⟩
          have HN : Aside0 (∀ k m, k < n → m < len k + 64 → ∃ ad, (gs k).1 = some ad ∧ SC wr (ad.add (m * 4)) (markS k m)) := ⟨fun k m hn hm => mark_at (Kd.F_now (HS.out.news k hn).2) hm⟩
          have HD : Aside0 (∀ k m, k < n → m < len k → ∃ ad, (vs k).1 = some ad ∧ SC wr (ad.add (m * 4)) (markS k m)) := ⟨fun k m hn hm => mark_at (Kd.F_now (HS.out.olds k hn)) hm⟩
          have HEnd : Aside0 (Below w0.heap.size w0 wr ∧ Kept w wr (Own vs n)) := ⟨HS.out.below, HS.out.kept⟩
          clear hCu HS HU
          obtain ⟨WZ, hWZ⟩ : ∃ WZ : World, WZ = wr := ⟨_, rfl⟩
          have HW0 : Aside0 (Below WZ.heap.size WZ wr) := ⟨by rw [hWZ]; exact Below.refl _ _⟩
          rw [← hWZ] at HRU HN HD HEnd
          clear hWZ
          go_wp2_with fail
          go_loopw [9] (fun i wx => ∃ k : Nat, k ≤ n ∧ i = .int .i64 k ∧ Aside0 (Below WZ.heap.size WZ wx)) (fun i _ => n - (intOf i).toNat)
          case atStart => exact ⟨0, by omega, rfl, HW0⟩
          case round =>
            clear HW0
            obtain ⟨k, hk, rfl, HW⟩ := hrel
            by_cases hlt : k < n
            · have hz := HZ.out k hlt
              obtain ⟨ad, rfl, h0⟩ := HRD.out WZ k HEnd.out.2 hlt
              obtain ⟨au, c2, rfl, h1⟩ := HRU.out k hlt
              obtain ⟨Ak, ck, hvk⟩ := HVL.out k hlt
              have HV := Aside0.mk hvk
              rw [hvk] at h0
              simp only [hv] at h0
              have C0w := Aside0.mk h0
              have C1w := Aside0.mk h1
              clear hvk h0 h1
              go_wp2_with fail
              go_loopw [10] (fun i wy => ∃ m : Nat, m ≤ len k + 64 ∧ i = .int .i64 m ∧ Aside0 (Below WZ.heap.size WZ wy)) (fun i _ => len k + 64 - (intOf i).toNat)
              case atStart => exact ⟨0, by omega, rfl, HW⟩
              case round =>
                clear HW
                obtain ⟨m, hm, rfl, HW⟩ := hrel
                have h1 := pw_cell_below HW.out C1w.out
                by_cases hml : m < len k + 64
                · obtain ⟨a1, e1, g1⟩ := HN.out k m hlt hml
                  rw [e1] at h1
                  have hk1 : (k : Int) < (n : Int) := by omega
                  have hk0 : (0 : Int) ≤ (k : Int) := by omega
                  have hm0 : (0 : Int) ≤ (m : Int) := by omega
                  have hM1 : (m : Int) < ((len k + 64 : Nat) : Int) := by omega
                  go_upto_region 25 with fail
                  have B11 : Aside0 ((wr.alloc (.cells #[.int .i64 (k : Int), .int .u16 0, .int .u16 0, .int .i64 (m : Int)] 28)).drew.heap[wr.heap.size]? = some (.cells #[.int .i64 (k : Int), .int .u16 0, .int .u16 0, .int .i64 (m : Int)] 28 (0, 0))) := ⟨blk_new _ _⟩
                  have bl := below_drew (below_alloc (Below.refl wr.heap.size wr) (.cells #[.int .i64 (k : Int), .int .u16 0, .int .u16 0, .int .i64 (m : Int)] 28))
                  replace HW := Aside0.mk (below_step HW.out bl)
                  have C0 := Aside0.mk (pw_cell_below HW.out C0w.out)
                  have C1 := Aside0.mk (pw_cell_below bl h1)
                  have G1 := Aside0.mk (g1.below HW.out)
                  clear bl h1
                  generalize wr.heap.size = g11 at B11 ⊢
                  by_cases hmo : m < len k
                  · obtain ⟨a2, e2, g2⟩ := HD.out k m hlt hmo
                    rw [HV.out] at e2
                    simp only at e2
                    subst e2
                    have G2 := Aside0.mk (g2.below HW.out)
                    have hm2 : (m : Int) < (len k : Int) := by omega
                    clear g1 g2
                    generalize wr.alloc (.cells #[.int .i64 (k : Int), .int .u16 0, .int .u16 0, .int .i64 (m : Int)] 28) = WA at HW B11 C0 C1 G1 G2 ⊢
                    refine start_ (n := 29) (S := fun w' => w'.cell? (au.add k) = some (.slice (some a1) (len k + 64) c2) ∧ w'.cell? (a1.add (m * 4)) = some (.int .i64 (k : Int)) ∧ w'.cell? ⟨(a1.add (m * 4)).block, (a1.add (m * 4)).off + 1, none⟩ = some (.int .u16 0) ∧ w'.cell? ⟨(a1.add (m * 4)).block, (a1.add (m * 4)).off + 2, none⟩ = some (.int .u16 0) ∧ w'.cell? ⟨(a1.add (m * 4)).block, (a1.add (m * 4)).off + 3, none⟩ = some (.int .i64 (m : Int)) ∧ w'.cell? ⟨g11, 0, none⟩ = some (.int .i64 (k : Int)) ∧ w'.cell? ⟨g11, 1, none⟩ = some (.int .u16 0) ∧ w'.cell? ⟨g11, 2, none⟩ = some (.int .u16 0) ∧ w'.cell? ⟨g11, 3, none⟩ = some (.int .i64 (m : Int)) ∧ w'.cell? (ad.add k) = some (.slice (some a2) (len k) ck) ∧ w'.cell? (a2.add (m * 4)) = some (.int .i64 (k : Int)) ∧ w'.cell? ⟨(a2.add (m * 4)).block, (a2.add (m * 4)).off + 1, none⟩ = some (.int .u16 0) ∧ w'.cell? ⟨(a2.add (m * 4)).block, (a2.add (m * 4)).off + 2, none⟩ = some (.int .u16 0) ∧ w'.cell? ⟨(a2.add (m * 4)).block, (a2.add (m * 4)).off + 3, none⟩ = some (.int .i64 (m : Int))) (ds := []) #[false, false, false, false, false, false, false, false, false, false, false, false, false, false, false, false, false, false, false, false, false, false, false, false, false, false, false, false, false] (by kernel_rfl) rfl rfl ⟨C1.out, G1.out.1, G1.out.2.1, G1.out.2.2.1, G1.out.2.2.2, (blk_cell B11.out 0).trans rfl, (blk_cell B11.out 1).trans rfl, (blk_cell B11.out 2).trans rfl, (blk_cell B11.out 3).trans rfl, C0.out, G2.out.1, G2.out.2.1, G2.out.2.2.1, G2.out.2.2.2⟩ (fun hHeld => ?_)
                    refine with_tabW r41_25_tab r41_25_bits (fun HT_ HW_ => ?_)
                    generalize World.drew WA = WD at HW B11 C0 C1 G1 G2 hHeld ⊢
                    refine pure_ (i := 0) (N := some 84) (v := ?_) (a' := ?_) #[true, false, false, false, false, false, false, false, false, false, false, false, false, false, false, false, false, false, false, false, false, false, false, false, false, false, false, false, false] rfl rfl (any_of HT_.out (by kernel_rfl)) (fun _ _ _ h => h) (Or.inl ⟨by rfl, ?_⟩) ?_ ?_
                    rotate_left
                    · intro w'
                      go_simp
                      with_reducible rfl
                    rotate_left
                    · simp only [Act.put, List.setIfInBounds_toArray, List.set_cons_zero, List.set_cons_succ, i64_w, i32_w]
                      rfl
                    refine pure_ (i := 1) (N := some 85) (v := ?_) (a' := ?_) #[true, true, false, false, false, false, false, false, false, false, false, false, false, false, false, false, false, false, false, false, false, false, false, false, false, false, false, false, false] rfl rfl (any_of HT_.out (by kernel_rfl)) (fun _ _ _ h => h) (Or.inl ⟨by rfl, ?_⟩) ?_ ?_
                    rotate_left
                    · intro w'
                      go_simp
                      with_reducible rfl
                    rotate_left
                    · simp only [Act.put, List.setIfInBounds_toArray, List.set_cons_zero, List.set_cons_succ, i64_w, i32_w]
                      rfl
                    refine pure_ (i := 2) (N := some 86) (v := ?_) (a' := ?_) #[true, true, true, false, false, false, false, false, false, false, false, false, false, false, false, false, false, false, false, false, false, false, false, false, false, false, false, false, false] rfl rfl (any_of HT_.out (by kernel_rfl)) (fun _ _ _ h => h) (Or.inl ⟨by rfl, ?_⟩) ?_ ?_
                    rotate_left
                    · intro w'
                      go_simp
                      with_reducible rfl
                    rotate_left
                    · simp only [Act.put, List.setIfInBounds_toArray, List.set_cons_zero, List.set_cons_succ, i64_w, i32_w]
                      rfl
                    refine take_ (i := 3) (N := some 87) (v := ?_) (a' := ?_) #[true, true, true, true, false, false, false, false, false, false, false, false, false, false, false, false, false, false, false, false, false, false, false, false, false, false, false, false, false] rfl rfl (take_ofW HT_.out HW_.out (by kernel_rfl)) (fun _ _ _ h => h) (Or.inl ⟨by rfl, ?_⟩) hHeld ?_ ?_
                    rotate_left
                    · rintro w' ⟨s0, s1, s2, s3, s4, s5, s6, s7, s8, s9, s10, s11, s12, s13⟩
                      go_simp
                      with_reducible rfl
                    rotate_left
                    · simp only [Act.put, List.setIfInBounds_toArray, List.set_cons_zero, List.set_cons_succ, i64_w, i32_w]
                      rfl
                    refine pure_ (i := 4) (N := some 88) (v := ?_) (a' := ?_) #[true, true, true, true, true, false, false, false, false, false, false, false, false, false, false, false, false, false, false, false, false, false, false, false, false, false, false, false, false] rfl rfl (any_of HT_.out (by kernel_rfl)) (fun _ _ _ h => h) (Or.inl ⟨by rfl, ?_⟩) ?_ ?_
                    rotate_left
                    · intro w'
                      go_simp
                      with_reducible rfl
                    rotate_left
                    · simp only [Act.put, List.setIfInBounds_toArray, List.set_cons_zero, List.set_cons_succ, i64_w, i32_w]
                      rfl
                    refine pure_ (i := 5) (N := some 89) (v := ?_) (a' := ?_) #[true, true, true, true, true, true, false, false, false, false, false, false, false, false, false, false, false, false, false, false, false, false, false, false, false, false, false, false, false] rfl rfl (any_of HT_.out (by kernel_rfl)) (fun _ _ _ h => h) (Or.inl ⟨by rfl, ?_⟩) ?_ ?_
                    rotate_left
                    · intro w'
                      go_simp
                      with_reducible rfl
                    rotate_left
                    · simp only [Act.put, List.setIfInBounds_toArray, List.set_cons_zero, List.set_cons_succ, i64_w, i32_w]
                      rfl
                    refine take_ (i := 6) (N := some 90) (v := ?_) (a' := ?_) #[true, true, true, true, true, true, true, false, false, false, false, false, false, false, false, false, false, false, false, false, false, false, false, false, false, false, false, false, false] rfl rfl (take_ofW HT_.out HW_.out (by kernel_rfl)) (fun _ _ _ h => h) (Or.inl ⟨by rfl, ?_⟩) hHeld ?_ ?_
                    rotate_left
                    · rintro w' ⟨s0, s1, s2, s3, s4, s5, s6, s7, s8, s9, s10, s11, s12, s13⟩
                      go_simp
                      with_reducible rfl
                    rotate_left
                    · simp only [Act.put, List.setIfInBounds_toArray, List.set_cons_zero, List.set_cons_succ, i64_w, i32_w]
                      rfl
                    refine take_ (i := 7) (N := some 91) (v := ?_) (a' := ?_) #[true, true, true, true, true, true, true, true, false, false, false, false, false, false, false, false, false, false, false, false, false, false, false, false, false, false, false, false, false] rfl rfl (take_ofW HT_.out HW_.out (by kernel_rfl)) (fun _ _ _ h => h) (Or.inl ⟨by rfl, ?_⟩) hHeld ?_ ?_
                    rotate_left
                    · rintro w' ⟨s0, s1, s2, s3, s4, s5, s6, s7, s8, s9, s10, s11, s12, s13⟩
                      go_simp
                      with_reducible rfl
                    rotate_left
                    · simp only [Act.put, List.setIfInBounds_toArray, List.set_cons_zero, List.set_cons_succ, i64_w, i32_w]
                      rfl
                    refine pure_ (i := 8) (N := some 92) (v := ?_) (a' := ?_) #[true, true, true, true, true, true, true, true, true, false, false, false, false, false, false, false, false, false, false, false, false, false, false, false, false, false, false, false, false] rfl rfl (any_of HT_.out (by kernel_rfl)) (fun _ _ _ h => h) (Or.inl ⟨by rfl, ?_⟩) ?_ ?_
                    rotate_left
                    · intro w'
                      go_simp
                      with_reducible rfl
                    rotate_left
                    · simp only [Act.put, List.setIfInBounds_toArray, List.set_cons_zero, List.set_cons_succ, i64_w, i32_w]
                      rfl
                    refine pure_ (i := 9) (N := some 93) (v := ?_) (a' := ?_) #[true, true, true, true, true, true, true, true, true, true, false, false, false, false, false, false, false, false, false, false, false, false, false, false, false, false, false, false, false] rfl rfl (any_of HT_.out (by kernel_rfl)) (fun _ _ _ h => h) (Or.inl ⟨by rfl, ?_⟩) ?_ ?_
                    rotate_left
                    · intro w'
                      go_simp
                      with_reducible rfl
                    rotate_left
                    · simp only [Act.put, List.setIfInBounds_toArray, List.set_cons_zero, List.set_cons_succ, i64_w, i32_w]
                      rfl
                    refine pure_ (i := 10) (N := some 94) (v := ?_) (a' := ?_) #[true, true, true, true, true, true, true, true, true, true, true, false, false, false, false, false, false, false, false, false, false, false, false, false, false, false, false, false, false] rfl rfl (any_of HT_.out (by kernel_rfl)) (fun _ _ _ h => h) (Or.inl ⟨by rfl, ?_⟩) ?_ ?_
                    rotate_left
                    · intro w'
                      go_simp
                      with_reducible rfl
                    rotate_left
                    · simp only [Act.put, List.setIfInBounds_toArray, List.set_cons_zero, List.set_cons_succ, i64_w, i32_w]
                      rfl
                    refine pure_ (i := 11) (N := some 95) (v := ?_) (a' := ?_) #[true, true, true, true, true, true, true, true, true, true, true, true, false, false, false, false, false, false, false, false, false, false, false, false, false, false, false, false, false] rfl rfl (any_of HT_.out (by kernel_rfl)) (fun _ _ _ h => h) (Or.inl ⟨by rfl, ?_⟩) ?_ ?_
                    rotate_left
                    · intro w'
                      go_simp
                      with_reducible rfl
                    rotate_left
                    · simp only [Act.put, List.setIfInBounds_toArray, List.set_cons_zero, List.set_cons_succ, i64_w, i32_w]
                      rfl
                    refine pure_ (i := 12) (N := some 96) (v := ?_) (a' := ?_) #[true, true, true, true, true, true, true, true, true, true, true, true, true, false, false, false, false, false, false, false, false, false, false, false, false, false, false, false, false] rfl rfl (any_of HT_.out (by kernel_rfl)) (fun _ _ _ h => h) (Or.inl ⟨by rfl, ?_⟩) ?_ ?_
                    rotate_left
                    · intro w'
                      go_simp
                      with_reducible rfl
                    rotate_left
                    · simp only [Act.put, List.setIfInBounds_toArray, List.set_cons_zero, List.set_cons_succ, i64_w, i32_w]
                      rfl
                    refine pure_ (i := 13) (N := some 97) (v := ?_) (a' := ?_) #[true, true, true, true, true, true, true, true, true, true, true, true, true, true, false, false, false, false, false, false, false, false, false, false, false, false, false, false, false] rfl rfl (any_of HT_.out (by kernel_rfl)) (fun _ _ _ h => h) (Or.inl ⟨by rfl, ?_⟩) ?_ ?_
                    rotate_left
                    · intro w'
                      go_simp
                      with_reducible rfl
                    rotate_left
                    · simp only [Act.put, List.setIfInBounds_toArray, List.set_cons_zero, List.set_cons_succ, i64_w, i32_w]
                      rfl
                    refine take_ (i := 14) (N := some 98) (v := ?_) (a' := ?_) #[true, true, true, true, true, true, true, true, true, true, true, true, true, true, true, false, false, false, false, false, false, false, false, false, false, false, false, false, false] rfl rfl (take_ofW HT_.out HW_.out (by kernel_rfl)) (fun _ _ _ h => h) (Or.inl ⟨by rfl, ?_⟩) hHeld ?_ ?_
                    rotate_left
                    · rintro w' ⟨s0, s1, s2, s3, s4, s5, s6, s7, s8, s9, s10, s11, s12, s13⟩
                      go_simp
                      with_reducible rfl
                    rotate_left
                    · simp only [Act.put, List.setIfInBounds_toArray, List.set_cons_zero, List.set_cons_succ, i64_w, i32_w]
                      rfl
                    refine pure_ (i := 15) (N := some 99) (v := ?_) (a' := ?_) #[true, true, true, true, true, true, true, true, true, true, true, true, true, true, true, true, false, false, false, false, false, false, false, false, false, false, false, false, false] rfl rfl (any_of HT_.out (by kernel_rfl)) (fun _ _ _ h => h) (Or.inl ⟨by rfl, ?_⟩) ?_ ?_
                    rotate_left
                    · intro w'
                      go_simp
                      with_reducible rfl
                    rotate_left
                    · simp only [Act.put, List.setIfInBounds_toArray, List.set_cons_zero, List.set_cons_succ, i64_w, i32_w]
                      rfl
                    refine pure_ (i := 16) (N := some 100) (v := ?_) (a' := ?_) #[true, true, true, true, true, true, true, true, true, true, true, true, true, true, true, true, true, false, false, false, false, false, false, false, false, false, false, false, false] rfl rfl (any_of HT_.out (by kernel_rfl)) (fun _ _ _ h => h) (Or.inl ⟨by rfl, ?_⟩) ?_ ?_
                    rotate_left
                    · intro w'
                      go_simp
                      with_reducible rfl
                    rotate_left
                    · simp only [Act.put, List.setIfInBounds_toArray, List.set_cons_zero, List.set_cons_succ, i64_w, i32_w]
                      rfl
                    refine pure_ (i := 17) (N := some 101) (v := ?_) (a' := ?_) #[true, true, true, true, true, true, true, true, true, true, true, true, true, true, true, true, true, true, false, false, false, false, false, false, false, false, false, false, false] rfl rfl (any_of HT_.out (by kernel_rfl)) (fun _ _ _ h => h) (Or.inl ⟨by rfl, ?_⟩) ?_ ?_
                    rotate_left
                    · intro w'
                      go_simp
                      with_reducible rfl
                    rotate_left
                    · simp only [Act.put, List.setIfInBounds_toArray, List.set_cons_zero, List.set_cons_succ, i64_w, i32_w]
                      rfl
                    refine pure_ (i := 18) (N := some 102) (v := ?_) (a' := ?_) #[true, true, true, true, true, true, true, true, true, true, true, true, true, true, true, true, true, true, true, false, false, false, false, false, false, false, false, false, false] rfl rfl (any_of HT_.out (by kernel_rfl)) (fun _ _ _ h => h) (Or.inl ⟨by rfl, ?_⟩) ?_ ?_
                    rotate_left
                    · intro w'
                      go_simp
                      with_reducible rfl
                    rotate_left
                    · simp only [Act.put, List.setIfInBounds_toArray, List.set_cons_zero, List.set_cons_succ, i64_w, i32_w]
                      rfl
                    refine pure_ (i := 19) (N := some 103) (v := ?_) (a' := ?_) #[true, true, true, true, true, true, true, true, true, true, true, true, true, true, true, true, true, true, true, true, false, false, false, false, false, false, false, false, false] rfl rfl (any_of HT_.out (by kernel_rfl)) (fun _ _ _ h => h) (Or.inl ⟨by rfl, ?_⟩) ?_ ?_
                    rotate_left
                    · intro w'
                      go_simp
                      with_reducible rfl
                    rotate_left
                    · simp only [Act.put, List.setIfInBounds_toArray, List.set_cons_zero, List.set_cons_succ, i64_w, i32_w]
                      rfl
                    refine pure_ (i := 20) (N := some 104) (v := ?_) (a' := ?_) #[true, true, true, true, true, true, true, true, true, true, true, true, true, true, true, true, true, true, true, true, true, false, false, false, false, false, false, false, false] rfl rfl (any_of HT_.out (by kernel_rfl)) (fun _ _ _ h => h) (Or.inl ⟨by rfl, ?_⟩) ?_ ?_
                    rotate_left
                    · intro w'
                      go_simp
                      with_reducible rfl
                    rotate_left
                    · simp only [Act.put, List.setIfInBounds_toArray, List.set_cons_zero, List.set_cons_succ, i64_w, i32_w]
                      rfl
                    refine take_ (i := 21) (N := some 105) (v := ?_) (a' := ?_) #[true, true, true, true, true, true, true, true, true, true, true, true, true, true, true, true, true, true, true, true, true, true, false, false, false, false, false, false, false] rfl rfl (take_ofW HT_.out HW_.out (by kernel_rfl)) (fun _ _ _ h => h) (Or.inl ⟨by rfl, ?_⟩) hHeld ?_ ?_
                    rotate_left
                    · rintro w' ⟨s0, s1, s2, s3, s4, s5, s6, s7, s8, s9, s10, s11, s12, s13⟩
                      go_simp
                      with_reducible rfl
                    rotate_left
                    · simp only [Act.put, List.setIfInBounds_toArray, List.set_cons_zero, List.set_cons_succ, i64_w, i32_w]
                      rfl
                    refine pure_ (i := 22) (N := some 106) (v := ?_) (a' := ?_) #[true, true, true, true, true, true, true, true, true, true, true, true, true, true, true, true, true, true, true, true, true, true, true, false, false, false, false, false, false] rfl rfl (any_of HT_.out (by kernel_rfl)) (fun _ _ _ h => h) (Or.inl ⟨by rfl, ?_⟩) ?_ ?_
                    rotate_left
                    · intro w'
                      go_simp
                      with_reducible rfl
                    rotate_left
                    · simp only [Act.put, List.setIfInBounds_toArray, List.set_cons_zero, List.set_cons_succ, i64_w, i32_w]
                      rfl
                    refine pure_ (i := 23) (N := some 107) (v := ?_) (a' := ?_) #[true, true, true, true, true, true, true, true, true, true, true, true, true, true, true, true, true, true, true, true, true, true, true, true, false, false, false, false, false] rfl rfl (any_of HT_.out (by kernel_rfl)) (fun _ _ _ h => h) (Or.inl ⟨by rfl, ?_⟩) ?_ ?_
                    rotate_left
                    · intro w'
                      go_simp
                      with_reducible rfl
                    rotate_left
                    · simp only [Act.put, List.setIfInBounds_toArray, List.set_cons_zero, List.set_cons_succ, i64_w, i32_w]
                      rfl
                    refine take_ (i := 24) (N := some 108) (v := ?_) (a' := ?_) #[true, true, true, true, true, true, true, true, true, true, true, true, true, true, true, true, true, true, true, true, true, true, true, true, true, false, false, false, false] rfl rfl (take_ofW HT_.out HW_.out (by kernel_rfl)) (fun _ _ _ h => h) (Or.inl ⟨by rfl, ?_⟩) hHeld ?_ ?_
                    rotate_left
                    · rintro w' ⟨s0, s1, s2, s3, s4, s5, s6, s7, s8, s9, s10, s11, s12, s13⟩
                      go_simp
                      with_reducible rfl
                    rotate_left
                    · simp only [Act.put, List.setIfInBounds_toArray, List.set_cons_zero, List.set_cons_succ, i64_w, i32_w]
                      rfl
                    refine take_ (i := 25) (N := some 109) (v := ?_) (a' := ?_) #[true, true, true, true, true, true, true, true, true, true, true, true, true, true, true, true, true, true, true, true, true, true, true, true, true, true, false, false, false] rfl rfl (take_ofW HT_.out HW_.out (by kernel_rfl)) (fun _ _ _ h => h) (Or.inl ⟨by rfl, ?_⟩) hHeld ?_ ?_
                    rotate_left
                    · rintro w' ⟨s0, s1, s2, s3, s4, s5, s6, s7, s8, s9, s10, s11, s12, s13⟩
                      go_simp
                      with_reducible rfl
                    rotate_left
                    · simp only [Act.put, List.setIfInBounds_toArray, List.set_cons_zero, List.set_cons_succ, i64_w, i32_w]
                      rfl
                    refine pure_ (i := 26) (N := some 110) (v := ?_) (a' := ?_) #[true, true, true, true, true, true, true, true, true, true, true, true, true, true, true, true, true, true, true, true, true, true, true, true, true, true, true, false, false] rfl rfl (any_of HT_.out (by kernel_rfl)) (fun _ _ _ h => h) (Or.inl ⟨by rfl, ?_⟩) ?_ ?_
                    rotate_left
                    · intro w'
                      go_simp
                      with_reducible rfl
                    rotate_left
                    · simp only [Act.put, List.setIfInBounds_toArray, List.set_cons_zero, List.set_cons_succ, i64_w, i32_w]
                      rfl
                    refine pure_ (i := 27) (N := some 111) (v := ?_) (a' := ?_) #[true, true, true, true, true, true, true, true, true, true, true, true, true, true, true, true, true, true, true, true, true, true, true, true, true, true, true, true, false] rfl rfl (any_of HT_.out (by kernel_rfl)) (fun _ _ _ h => h) (Or.inl ⟨by rfl, ?_⟩) ?_ ?_
                    rotate_left
                    · intro w'
                      go_simp
                      with_reducible rfl
                    rotate_left
                    · simp only [Act.put, List.setIfInBounds_toArray, List.set_cons_zero, List.set_cons_succ, i64_w, i32_w]
                      rfl
                    refine pure_ (i := 28) (N := some 112) (v := ?_) (a' := ?_) #[true, true, true, true, true, true, true, true, true, true, true, true, true, true, true, true, true, true, true, true, true, true, true, true, true, true, true, true, true] rfl rfl (any_of HT_.out (by kernel_rfl)) (fun _ _ _ h => h) (Or.inl ⟨by rfl, ?_⟩) ?_ ?_
                    rotate_left
                    · intro w'
                      go_simp
                      with_reducible rfl
                    rotate_left
                    · simp only [Act.put, List.setIfInBounds_toArray, List.set_cons_zero, List.set_cons_succ, i64_w, i32_w]
                      rfl
                    refine done_ (done_of HT_.out (by kernel_rfl)) ?_
                    clear hHeld
                    go_wp2_with fail
                    refine ⟨⟨m + 1, by omega, by go_num, HW⟩, ?_⟩
                    simp [intOf]
                    omega
                  · have hm2 : ¬ (m : Int) < (len k : Int) := by omega
                    clear g1
                    generalize wr.alloc (.cells #[.int .i64 (k : Int), .int .u16 0, .int .u16 0, .int .i64 (m : Int)] 28) = WA at HW B11 C0 C1 G1 ⊢
                    refine start_ (n := 29) (S := fun w' => w'.cell? (au.add k) = some (.slice (some a1) (len k + 64) c2) ∧ w'.cell? (a1.add (m * 4)) = some (.int .i64 (k : Int)) ∧ w'.cell? ⟨(a1.add (m * 4)).block, (a1.add (m * 4)).off + 1, none⟩ = some (.int .u16 0) ∧ w'.cell? ⟨(a1.add (m * 4)).block, (a1.add (m * 4)).off + 2, none⟩ = some (.int .u16 0) ∧ w'.cell? ⟨(a1.add (m * 4)).block, (a1.add (m * 4)).off + 3, none⟩ = some (.int .i64 (m : Int)) ∧ w'.cell? ⟨g11, 0, none⟩ = some (.int .i64 (k : Int)) ∧ w'.cell? ⟨g11, 1, none⟩ = some (.int .u16 0) ∧ w'.cell? ⟨g11, 2, none⟩ = some (.int .u16 0) ∧ w'.cell? ⟨g11, 3, none⟩ = some (.int .i64 (m : Int)) ∧ w'.cell? (ad.add k) = some (.slice Ak (len k) ck)) (ds := []) #[false, false, false, false, false, false, false, false, false, false, false, false, false, false, false, false, false, false, false, false, false, false, false, false, false, false, false, false, false] (by kernel_rfl) rfl rfl ⟨C1.out, G1.out.1, G1.out.2.1, G1.out.2.2.1, G1.out.2.2.2, (blk_cell B11.out 0).trans rfl, (blk_cell B11.out 1).trans rfl, (blk_cell B11.out 2).trans rfl, (blk_cell B11.out 3).trans rfl, C0.out⟩ (fun hHeld => ?_)
                    refine with_tabW r41_25_tab r41_25_bits (fun HT_ HW_ => ?_)
                    generalize World.drew WA = WD at HW B11 C0 C1 G1 hHeld ⊢
                    refine pure_ (i := 0) (N := some 84) (v := ?_) (a' := ?_) #[true, false, false, false, false, false, false, false, false, false, false, false, false, false, false, false, false, false, false, false, false, false, false, false, false, false, false, false, false] rfl rfl (any_of HT_.out (by kernel_rfl)) (fun _ _ _ h => h) (Or.inl ⟨by rfl, ?_⟩) ?_ ?_
                    rotate_left
                    · intro w'
                      go_simp
                      with_reducible rfl
                    rotate_left
                    · simp only [Act.put, List.setIfInBounds_toArray, List.set_cons_zero, List.set_cons_succ, i64_w, i32_w]
                      rfl
                    refine pure_ (i := 1) (N := some 85) (v := ?_) (a' := ?_) #[true, true, false, false, false, false, false, false, false, false, false, false, false, false, false, false, false, false, false, false, false, false, false, false, false, false, false, false, false] rfl rfl (any_of HT_.out (by kernel_rfl)) (fun _ _ _ h => h) (Or.inl ⟨by rfl, ?_⟩) ?_ ?_
                    rotate_left
                    · intro w'
                      go_simp
                      with_reducible rfl
                    rotate_left
                    · simp only [Act.put, List.setIfInBounds_toArray, List.set_cons_zero, List.set_cons_succ, i64_w, i32_w]
                      rfl
                    refine pure_ (i := 2) (N := some 86) (v := ?_) (a' := ?_) #[true, true, true, false, false, false, false, false, false, false, false, false, false, false, false, false, false, false, false, false, false, false, false, false, false, false, false, false, false] rfl rfl (any_of HT_.out (by kernel_rfl)) (fun _ _ _ h => h) (Or.inl ⟨by rfl, ?_⟩) ?_ ?_
                    rotate_left
                    · intro w'
                      go_simp
                      with_reducible rfl
                    rotate_left
                    · simp only [Act.put, List.setIfInBounds_toArray, List.set_cons_zero, List.set_cons_succ, i64_w, i32_w]
                      rfl
                    refine take_ (i := 3) (N := some 87) (v := ?_) (a' := ?_) #[true, true, true, true, false, false, false, false, false, false, false, false, false, false, false, false, false, false, false, false, false, false, false, false, false, false, false, false, false] rfl rfl (take_ofW HT_.out HW_.out (by kernel_rfl)) (fun _ _ _ h => h) (Or.inl ⟨by rfl, ?_⟩) hHeld ?_ ?_
                    rotate_left
                    · rintro w' ⟨s0, s1, s2, s3, s4, s5, s6, s7, s8, s9⟩
                      go_simp
                      with_reducible rfl
                    rotate_left
                    · simp only [Act.put, List.setIfInBounds_toArray, List.set_cons_zero, List.set_cons_succ, i64_w, i32_w]
                      rfl
                    refine pure_ (i := 4) (N := some 88) (v := ?_) (a' := ?_) #[true, true, true, true, true, false, false, false, false, false, false, false, false, false, false, false, false, false, false, false, false, false, false, false, false, false, false, false, false] rfl rfl (any_of HT_.out (by kernel_rfl)) (fun _ _ _ h => h) (Or.inl ⟨by rfl, ?_⟩) ?_ ?_
                    rotate_left
                    · intro w'
                      go_simp
                      with_reducible rfl
                    rotate_left
                    · simp only [Act.put, List.setIfInBounds_toArray, List.set_cons_zero, List.set_cons_succ, i64_w, i32_w]
                      rfl
                    refine pure_ (i := 5) (N := some 89) (v := ?_) (a' := ?_) #[true, true, true, true, true, true, false, false, false, false, false, false, false, false, false, false, false, false, false, false, false, false, false, false, false, false, false, false, false] rfl rfl (any_of HT_.out (by kernel_rfl)) (fun _ _ _ h => h) (Or.inl ⟨by rfl, ?_⟩) ?_ ?_
                    rotate_left
                    · intro w'
                      go_simp
                      with_reducible rfl
                    rotate_left
                    · simp only [Act.put, List.setIfInBounds_toArray, List.set_cons_zero, List.set_cons_succ, i64_w, i32_w]
                      rfl
                    refine take_ (i := 6) (N := some 90) (v := ?_) (a' := ?_) #[true, true, true, true, true, true, true, false, false, false, false, false, false, false, false, false, false, false, false, false, false, false, false, false, false, false, false, false, false] rfl rfl (take_ofW HT_.out HW_.out (by kernel_rfl)) (fun _ _ _ h => h) (Or.inl ⟨by rfl, ?_⟩) hHeld ?_ ?_
                    rotate_left
                    · rintro w' ⟨s0, s1, s2, s3, s4, s5, s6, s7, s8, s9⟩
                      go_simp
                      with_reducible rfl
                    rotate_left
                    · simp only [Act.put, List.setIfInBounds_toArray, List.set_cons_zero, List.set_cons_succ, i64_w, i32_w]
                      rfl
                    refine take_ (i := 7) (N := some 91) (v := ?_) (a' := ?_) #[true, true, true, true, true, true, true, true, false, false, false, false, false, false, false, false, false, false, false, false, false, false, false, false, false, false, false, false, false] rfl rfl (take_ofW HT_.out HW_.out (by kernel_rfl)) (fun _ _ _ h => h) (Or.inl ⟨by rfl, ?_⟩) hHeld ?_ ?_
                    rotate_left
                    · rintro w' ⟨s0, s1, s2, s3, s4, s5, s6, s7, s8, s9⟩
                      go_simp
                      with_reducible rfl
                    rotate_left
                    · simp only [Act.put, List.setIfInBounds_toArray, List.set_cons_zero, List.set_cons_succ, i64_w, i32_w]
                      rfl
                    refine pure_ (i := 8) (N := some 92) (v := ?_) (a' := ?_) #[true, true, true, true, true, true, true, true, true, false, false, false, false, false, false, false, false, false, false, false, false, false, false, false, false, false, false, false, false] rfl rfl (any_of HT_.out (by kernel_rfl)) (fun _ _ _ h => h) (Or.inl ⟨by rfl, ?_⟩) ?_ ?_
                    rotate_left
                    · intro w'
                      go_simp
                      with_reducible rfl
                    rotate_left
                    · simp only [Act.put, List.setIfInBounds_toArray, List.set_cons_zero, List.set_cons_succ, i64_w, i32_w]
                      rfl
                    refine pure_ (i := 9) (N := some 93) (v := ?_) (a' := ?_) #[true, true, true, true, true, true, true, true, true, true, false, false, false, false, false, false, false, false, false, false, false, false, false, false, false, false, false, false, false] rfl rfl (any_of HT_.out (by kernel_rfl)) (fun _ _ _ h => h) (Or.inl ⟨by rfl, ?_⟩) ?_ ?_
                    rotate_left
                    · intro w'
                      go_simp
                      with_reducible rfl
                    rotate_left
                    · simp only [Act.put, List.setIfInBounds_toArray, List.set_cons_zero, List.set_cons_succ, i64_w, i32_w]
                      rfl
                    refine pure_ (i := 10) (N := some 94) (v := ?_) (a' := ?_) #[true, true, true, true, true, true, true, true, true, true, true, false, false, false, false, false, false, false, false, false, false, false, false, false, false, false, false, false, false] rfl rfl (any_of HT_.out (by kernel_rfl)) (fun _ _ _ h => h) (Or.inl ⟨by rfl, ?_⟩) ?_ ?_
                    rotate_left
                    · intro w'
                      go_simp
                      with_reducible rfl
                    rotate_left
                    · simp only [Act.put, List.setIfInBounds_toArray, List.set_cons_zero, List.set_cons_succ, i64_w, i32_w]
                      rfl
                    refine pure_ (i := 11) (N := some 95) (v := ?_) (a' := ?_) #[true, true, true, true, true, true, true, true, true, true, true, true, false, false, false, false, false, false, false, false, false, false, false, false, false, false, false, false, false] rfl rfl (any_of HT_.out (by kernel_rfl)) (fun _ _ _ h => h) (Or.inl ⟨by rfl, ?_⟩) ?_ ?_
                    rotate_left
                    · intro w'
                      go_simp
                      with_reducible rfl
                    rotate_left
                    · simp only [Act.put, List.setIfInBounds_toArray, List.set_cons_zero, List.set_cons_succ, i64_w, i32_w]
                      rfl
                    refine pure_ (i := 12) (N := some 96) (v := ?_) (a' := ?_) #[true, true, true, true, true, true, true, true, true, true, true, true, true, false, false, false, false, false, false, false, false, false, false, false, false, false, false, false, false] rfl rfl (any_of HT_.out (by kernel_rfl)) (fun _ _ _ h => h) (Or.inl ⟨by rfl, ?_⟩) ?_ ?_
                    rotate_left
                    · intro w'
                      go_simp
                      with_reducible rfl
                    rotate_left
                    · simp only [Act.put, List.setIfInBounds_toArray, List.set_cons_zero, List.set_cons_succ, i64_w, i32_w]
                      rfl
                    refine pure_ (i := 13) (N := some 97) (v := ?_) (a' := ?_) #[true, true, true, true, true, true, true, true, true, true, true, true, true, true, false, false, false, false, false, false, false, false, false, false, false, false, false, false, false] rfl rfl (any_of HT_.out (by kernel_rfl)) (fun _ _ _ h => h) (Or.inl ⟨by rfl, ?_⟩) ?_ ?_
                    rotate_left
                    · intro w'
                      go_simp
                      with_reducible rfl
                    rotate_left
                    · simp only [Act.put, List.setIfInBounds_toArray, List.set_cons_zero, List.set_cons_succ, i64_w, i32_w]
                      rfl
                    refine take_ (i := 14) (N := some 98) (v := ?_) (a' := ?_) #[true, true, true, true, true, true, true, true, true, true, true, true, true, true, true, false, false, false, false, false, false, false, false, false, false, false, false, false, false] rfl rfl (take_ofW HT_.out HW_.out (by kernel_rfl)) (fun _ _ _ h => h) (Or.inl ⟨by rfl, ?_⟩) hHeld ?_ ?_
                    rotate_left
                    · rintro w' ⟨s0, s1, s2, s3, s4, s5, s6, s7, s8, s9⟩
                      go_simp
                      with_reducible rfl
                    rotate_left
                    · simp only [Act.put, List.setIfInBounds_toArray, List.set_cons_zero, List.set_cons_succ, i64_w, i32_w]
                      rfl
                    refine pure_ (i := 15) (N := some 99) (v := ?_) (a' := ?_) #[true, true, true, true, true, true, true, true, true, true, true, true, true, true, true, true, false, false, false, false, false, false, false, false, false, false, false, false, false] rfl rfl (any_of HT_.out (by kernel_rfl)) (fun _ _ _ h => h) (Or.inl ⟨by rfl, ?_⟩) ?_ ?_
                    rotate_left
                    · intro w'
                      go_simp
                      with_reducible rfl
                    rotate_left
                    · simp only [Act.put, List.setIfInBounds_toArray, List.set_cons_zero, List.set_cons_succ, i64_w, i32_w]
                      rfl
                    refine pure_ (i := 16) (N := some 100) (v := ?_) (a' := ?_) #[true, true, true, true, true, true, true, true, true, true, true, true, true, true, true, true, true, false, false, false, false, false, false, false, false, false, false, false, false] rfl rfl (any_of HT_.out (by kernel_rfl)) (fun _ _ _ h => h) (Or.inl ⟨by rfl, ?_⟩) ?_ ?_
                    rotate_left
                    · intro w'
                      go_simp
                      with_reducible rfl
                    rotate_left
                    · simp only [Act.put, List.setIfInBounds_toArray, List.set_cons_zero, List.set_cons_succ, i64_w, i32_w]
                      rfl
                    refine pure_ (i := 17) (N := some 101) (v := ?_) (a' := ?_) #[true, true, true, true, true, true, true, true, true, true, true, true, true, true, true, true, true, true, false, false, false, false, false, false, false, false, false, false, false] rfl rfl (any_of HT_.out (by kernel_rfl)) (fun _ _ _ h => h) (Or.inl ⟨by rfl, ?_⟩) ?_ ?_
                    rotate_left
                    · intro w'
                      go_simp
                      with_reducible rfl
                    rotate_left
                    · simp only [Act.put, List.setIfInBounds_toArray, List.set_cons_zero, List.set_cons_succ, i64_w, i32_w]
                      rfl
                    refine pure_ (i := 18) (N := some 102) (v := undef) (a' := ?_) #[true, true, true, true, true, true, true, true, true, true, true, true, true, true, true, true, true, true, true, false, false, false, false, false, false, false, false, false, false] rfl rfl (any_of HT_.out (by kernel_rfl)) (fun _ _ _ h => h) (Or.inr ⟨by rfl, rfl⟩) ?_ ?_
                    rotate_left
                    · simp only [Act.put, List.setIfInBounds_toArray, List.set_cons_zero, List.set_cons_succ, i64_w, i32_w]
                      rfl
                    refine pure_ (i := 19) (N := some 103) (v := undef) (a' := ?_) #[true, true, true, true, true, true, true, true, true, true, true, true, true, true, true, true, true, true, true, true, false, false, false, false, false, false, false, false, false] rfl rfl (any_of HT_.out (by kernel_rfl)) (fun _ _ _ h => h) (Or.inr ⟨by rfl, rfl⟩) ?_ ?_
                    rotate_left
                    · simp only [Act.put, List.setIfInBounds_toArray, List.set_cons_zero, List.set_cons_succ, i64_w, i32_w]
                      rfl
                    refine pure_ (i := 20) (N := some 104) (v := undef) (a' := ?_) #[true, true, true, true, true, true, true, true, true, true, true, true, true, true, true, true, true, true, true, true, true, false, false, false, false, false, false, false, false] rfl rfl (any_of HT_.out (by kernel_rfl)) (fun _ _ _ h => h) (Or.inr ⟨by rfl, rfl⟩) ?_ ?_
                    rotate_left
                    · simp only [Act.put, List.setIfInBounds_toArray, List.set_cons_zero, List.set_cons_succ, i64_w, i32_w]
                      rfl
                    refine pure_ (i := 21) (N := some 105) (v := undef) (a' := ?_) #[true, true, true, true, true, true, true, true, true, true, true, true, true, true, true, true, true, true, true, true, true, true, false, false, false, false, false, false, false] rfl rfl (any_of HT_.out (by kernel_rfl)) (fun _ _ _ h => h) (Or.inr ⟨by rfl, rfl⟩) ?_ ?_
                    rotate_left
                    · simp only [Act.put, List.setIfInBounds_toArray, List.set_cons_zero, List.set_cons_succ, i64_w, i32_w]
                      rfl
                    refine pure_ (i := 22) (N := some 106) (v := undef) (a' := ?_) #[true, true, true, true, true, true, true, true, true, true, true, true, true, true, true, true, true, true, true, true, true, true, true, false, false, false, false, false, false] rfl rfl (any_of HT_.out (by kernel_rfl)) (fun _ _ _ h => h) (Or.inr ⟨by rfl, rfl⟩) ?_ ?_
                    rotate_left
                    · simp only [Act.put, List.setIfInBounds_toArray, List.set_cons_zero, List.set_cons_succ, i64_w, i32_w]
                      rfl
                    refine pure_ (i := 23) (N := some 107) (v := undef) (a' := ?_) #[true, true, true, true, true, true, true, true, true, true, true, true, true, true, true, true, true, true, true, true, true, true, true, true, false, false, false, false, false] rfl rfl (any_of HT_.out (by kernel_rfl)) (fun _ _ _ h => h) (Or.inr ⟨by rfl, rfl⟩) ?_ ?_
                    rotate_left
                    · simp only [Act.put, List.setIfInBounds_toArray, List.set_cons_zero, List.set_cons_succ, i64_w, i32_w]
                      rfl
                    refine pure_ (i := 24) (N := some 108) (v := undef) (a' := ?_) #[true, true, true, true, true, true, true, true, true, true, true, true, true, true, true, true, true, true, true, true, true, true, true, true, true, false, false, false, false] rfl rfl (any_of HT_.out (by kernel_rfl)) (fun _ _ _ h => h) (Or.inr ⟨by rfl, rfl⟩) ?_ ?_
                    rotate_left
                    · simp only [Act.put, List.setIfInBounds_toArray, List.set_cons_zero, List.set_cons_succ, i64_w, i32_w]
                      rfl
                    refine pure_ (i := 25) (N := some 109) (v := undef) (a' := ?_) #[true, true, true, true, true, true, true, true, true, true, true, true, true, true, true, true, true, true, true, true, true, true, true, true, true, true, false, false, false] rfl rfl (any_of HT_.out (by kernel_rfl)) (fun _ _ _ h => h) (Or.inr ⟨by rfl, rfl⟩) ?_ ?_
                    rotate_left
                    · simp only [Act.put, List.setIfInBounds_toArray, List.set_cons_zero, List.set_cons_succ, i64_w, i32_w]
                      rfl
                    refine pure_ (i := 26) (N := some 110) (v := undef) (a' := ?_) #[true, true, true, true, true, true, true, true, true, true, true, true, true, true, true, true, true, true, true, true, true, true, true, true, true, true, true, false, false] rfl rfl (any_of HT_.out (by kernel_rfl)) (fun _ _ _ h => h) (Or.inr ⟨by rfl, rfl⟩) ?_ ?_
                    rotate_left
                    · simp only [Act.put, List.setIfInBounds_toArray, List.set_cons_zero, List.set_cons_succ, i64_w, i32_w]
                      rfl
                    refine pure_ (i := 27) (N := some 111) (v := ?_) (a' := ?_) #[true, true, true, true, true, true, true, true, true, true, true, true, true, true, true, true, true, true, true, true, true, true, true, true, true, true, true, true, false] rfl rfl (any_of HT_.out (by kernel_rfl)) (fun _ _ _ h => h) (Or.inl ⟨by rfl, ?_⟩) ?_ ?_
                    rotate_left
                    · intro w'
                      go_simp
                      with_reducible rfl
                    rotate_left
                    · simp only [Act.put, List.setIfInBounds_toArray, List.set_cons_zero, List.set_cons_succ, i64_w, i32_w]
                      rfl
                    refine pure_ (i := 28) (N := some 112) (v := ?_) (a' := ?_) #[true, true, true, true, true, true, true, true, true, true, true, true, true, true, true, true, true, true, true, true, true, true, true, true, true, true, true, true, true] rfl rfl (any_of HT_.out (by kernel_rfl)) (fun _ _ _ h => h) (Or.inl ⟨by rfl, ?_⟩) ?_ ?_
                    rotate_left
                    · intro w'
                      go_simp
                      with_reducible rfl
                    rotate_left
                    · simp only [Act.put, List.setIfInBounds_toArray, List.set_cons_zero, List.set_cons_succ, i64_w, i32_w]
                      rfl
                    refine done_ (done_of HT_.out (by kernel_rfl)) ?_
                    clear hHeld
                    go_wp2_with fail
                    refine ⟨⟨m + 1, by omega, by go_num, HW⟩, ?_⟩
                    simp [intOf]
                    omega
                · go_wp2_with fail
                  go_roundw
                  case rel => exact ⟨k + 1, by omega, by go_num, HW⟩
                  case measure => simp [intOf]; omega
            · go_wp2_with fail
              go_ret
              exact ⟨rfl, below_step HEnd.out.1 HW.out, HEnd.out.2.below HW.out⟩
end Go.Proofs.Ytjeaojolhdfpeaa.Fam
