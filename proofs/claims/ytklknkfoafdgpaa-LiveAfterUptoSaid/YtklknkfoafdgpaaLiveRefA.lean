/- The reference's After, walked. -/
import Derived.Test.YtklknkfoafdgpaaLiveRefP
namespace Go.Proofs.Ytklknkfoafdgpaa.LiveRefA
open Go.RowKit Go.Proofs.YtklknkfoafdgpaaW.PrintWords Go.Proofs.YtklknkfoafdgpaaW.PrintLast Go.Proofs.YtklknkfoafdgpaaW.PrintMore
open Go.Proofs.Ytklknkfoafdgpaa.PLiveKnown Go.Proofs.Ytklknkfoafdgpaa.LiveT Go.Proofs.Ytklknkfoafdgpaa.LiveB Go.Proofs.Ytklknkfoafdgpaa.LiveInv Go.Proofs.Ytklknkfoafdgpaa.LiveSet Go.Proofs.Ytklknkfoafdgpaa.LiveAhead Go.Proofs.Ytklknkfoafdgpaa.LiveEnd Go.Proofs.Ytklknkfoafdgpaa.LiveSettled Go.Proofs.Ytklknkfoafdgpaa.LiveCopied Go.Proofs.Ytklknkfoafdgpaa.LiveAft Go.Proofs.Ytklknkfoafdgpaa.LiveRunP Go.Proofs.Ytklknkfoafdgpaa.LiveSame Go.Proofs.Ytklknkfoafdgpaa.LiveFit Go.Proofs.Ytklknkfoafdgpaa.LiveEvt Go.Proofs.Ytklknkfoafdgpaa.LiveAsked Go.Proofs.Ytklknkfoafdgpaa.LiveNoth Go.Proofs.Ytklknkfoafdgpaa.LiveFindP Go.Proofs.Ytklknkfoafdgpaa.LiveFindQ Go.Proofs.Ytklknkfoafdgpaa.LiveFind Go.Proofs.Ytklknkfoafdgpaa.LiveRefP
set_option linter.unusedVariables false
set_option linter.unusedSimpArgs false

set_option maxHeartbeats 8000000 in
set_option maxRecDepth 100000 in
theorem rafter_main (fn rg : Int) (Ab : Option Addr) (cb : Nat) (bs : List S43) (V : Nat → RS) (b i : Nat) (w : World) (hC : Kd.C k43 w Ab bs.length bs) (hcb : bs.length ≤ cb) (hf : FitC bs) (hV : Lfp (codeOf bs) V) (hb : b < bs.length) (hi : i < (rd_T43 bs b).f1.length) :
    Calls Try.prog 9 #[.agg #[.int .i64 fn, .int .i64 rg, .slice Ab bs.length cb], .int .i64 b, .int .i64 i] w fun e w' => ∃ v, e = .returned v ∧ Kd.R (Kd.int .i64) 3 w' w.heap.size (fun _ => True) v (regsTo (behind bs V b i) 512) ∧ Below w.heap.size w w' := by
  have HC := Aside0.mk hC
  have HCB := Aside0.mk hcb
  have HFT := Aside0.mk hf
  have HV := Aside0.mk hV
  obtain ⟨ad, A1, c1, A2, c2, e, hx0, hx1, hx2, l1, hg1, l2, hg2⟩ := rd_block hC (Below.refl _ w) b hb
  subst e
  have hmx : (rd_T43 bs b).f1.length ≤ 9223372036854775807 := Kd.C_max hg1
  have hb0 : decide ((b : Int) < 0) = false := decide_eq_false (by omega)
  have hi0 : decide ((i : Int) < 0) = false := decide_eq_false (by omega)
  have hb1 : decide ((bs.length : Int) ≤ b) = false := decide_eq_false (by omega)
  have hi1 : decide (((rd_T43 bs b).f1.length : Int) ≤ i) = false := decide_eq_false (by omega)
  have hbi : (b : Int) < bs.length := by omega
  have HBL := Aside0.mk hb
  have HIN : Aside0 (i + 1 ≤ (insOf bs b).length) := ⟨hi⟩
  have HRO : Aside0 (rowsOf bs b = (rd_T43 bs b).f1.length + 1) := ⟨rfl⟩
  have HWA : Aside0 (want bs V b (i + 1) = behind bs V b i) := ⟨rfl⟩
  generalize behind bs V b i = S at HWA ⊢
  have hL1 : (i : Int) + 1 < ((rd_T43 bs b).f1.length : Int) + 1 := by omega
  have hL2 : (i : Int) < ((rd_T43 bs b).f1.length : Int) := by omega
  have hL5 : 0 ≤ (i : Int) + 1 := by omega
  have hti : ((i : Int) + 1).toNat = i + 1 := by omega
  generalize (rd_T43 bs b).f1.length = n1 at *
  have HI := Aside0.mk hi
  clear hC hcb hf hV hx0 hx2 l1 l2 hg1 hg2 hb hi
  go_enter Try.func9, Try.ntmps9
  go_wp2_with (first
    | ((with_reducible refine gate_dst (N := 3) rfl ?_); refine zero_event 24 #[.int .i64 fn, .int .i64 rg, .slice (some ad) bs.length cb] rfl rfl (by first | (go_simp; done) | (go_simp; rfl)) ?_; intro g1 w1 hg1 hA1 hb1; have HB1 := Aside0.mk hb1; have u0 : w1.cell? ⟨g1, 0, none⟩ = some (.int .i64 fn) := ((blk_cell hA1 0).trans rfl); have u1 : w1.cell? ⟨g1, 1, none⟩ = some (.int .i64 rg) := ((blk_cell hA1 1).trans rfl); have u2 : w1.cell? ⟨g1, 2, none⟩ = some (.slice (some ad) bs.length cb) := ((blk_cell hA1 2).trans rfl); replace hx1 := pw_cell_below hb1 hx1; clear hg1 hA1 hb1)
    | (go_at_call 26; refine (find_calls fn rg (some ad) cb bs V _ (Kd.C_below HC.out HB1.out) HCB.out HFT.out HV.out).mono ?_; rintro e w2 ⟨v, vs, H, f, rfl, hw3, hfw, hb2⟩; have hq := W3.rd hw3 b (i + 1) HBL.out (by rw [HRO.out]; have := HI.out; omega); obtain ⟨ad3, c3, ab, cb', hv, hc3, hvb, hlb, k1, k2, kS⟩ := hq; subst hv; rw [HRO.out] at k1; have HF := Aside0.mk hfw; have HW := Aside0.mk hw3; have HB2 := Aside0.mk (below_step HB1.out hb2); rw [hfw b (i + 1) HBL.out HIN.out, HWA.out] at kS; have HKS := Aside0.mk kS; clear hw3 hfw hb2 hc3 hvb hlb kS u0 u1 u2 hx1))
  have HK1 := Aside0.mk k1
  have HK2 := Aside0.mk k2
  clear k1 k2 hb0 hi0 hb1 hi1
  (try (rename_i hq1 hq2; clear hq1 hq2))
  have HR0 : Aside0 (Kd.R (Kd.int .i64) 3 w2 w2.heap.size (fun _ => True) (.slice none 0 0) (regsTo S 0)) := ⟨Kd.R_nil _ _ _ _ _⟩
  go_loopw [8, 9] (fun v8 v9 wi => ∃ (k : Nat), k ≤ 512 ∧ v9 = .int .i64 k ∧ Aside0 (Below w2.heap.size w2 wi) ∧ Aside0 (Kd.R (Kd.int .i64) 3 wi w2.heap.size (fun _ => True) v8 (regsTo S k))) (fun _ v9 _ => 512 - (intOf v9).toNat)
  case atStart => exact ⟨0, by omega, rfl, ⟨Below.refl _ _⟩, HR0⟩
  case round =>
    clear HR0
    obtain ⟨k, hk, rfl, HB, HR⟩ := hrel
    by_cases hlt : k < 512
    · obtain ⟨t, ht⟩ : ∃ t, S (k : Int) = t := ⟨_, rfl⟩
      have HT := Aside0.mk ht
      have HSU := Aside0.mk (regsTo_succ S k)
      have hlen := Aside0.mk (regsTo_length S k)
      have k1 := pw_cell_below HB.out HK1.out
      have k2 : wr.cell? ⟨ab.block, ab.off + (i + 1), none⟩ = some (.slice (some ⟨H b (i + 1), 0, none⟩) 512 512) := pw_cell_below HB.out HK2.out
      have k3 := ks_cell (ks_below HKS.out HB.out) k hlt
      rw [ht] at k3
      clear ht
      cases t
      · go_wp2_with fail
        go_roundw
        case rel => exact ⟨k + 1, by omega, by go_num, HB, ⟨by rw [HSU.out, if_neg (by rw [HT.out]; decide), List.append_nil]; exact HR.out⟩⟩
        case measure => simp [intOf]; omega
      · go_wp2_with (first
          | (at_builtin; refine Kd.R_append (Kd.int .i64) (w0 := w2) w2.heap.size rfl (.tmp 51) (.tmp 53) 25 3 (.int .i64 0) 8 rfl Try.underlying25 infoI rfl (by decide) (by omega) _ (regsTo S k) (k : Int) [.int .i64 k] (fun _ => True) (fun _ => False) rfl rfl rfl (fun _ hk => hk.elim) (fun _ _ => trivial) HR.out HB.out HB.out.size (by have := hlen.out; omega) ?_; intro v9 w9 ho hb hg hat; have HR9 := Aside0.mk ho; have HB9 := Aside0.mk hb; clear ho hb hg hat))
        go_roundw
        case rel => exact ⟨k + 1, by omega, by go_num, HB9, ⟨by rw [HSU.out, if_pos HT.out]; exact HR9.out⟩⟩
        case measure => simp [intOf]; omega
    · obtain rfl : k = 512 := by omega
      go_wp2_with fail
      go_ret
      exact ⟨_, rfl, Kd.R_lower HR.out HB2.out.size, below_step HB2.out HB.out⟩

set_option maxHeartbeats 8000000 in
set_option maxRecDepth 100000 in
theorem rafter_none (fn rg : Int) (Ab : Option Addr) (cb : Nat) (bs : List S43) (block ins : Int) (w : World) (hC : Kd.C k43 w Ab bs.length bs) (hno : ¬ (0 ≤ block ∧ block < bs.length ∧ 0 ≤ ins ∧ ins < (rd_T43 bs block).f1.length)) :
    Calls Try.prog 9 #[.agg #[.int .i64 fn, .int .i64 rg, .slice Ab bs.length cb], .int .i64 block, .int .i64 ins] w fun e w' => ∃ v, e = .returned v ∧ Kd.R (Kd.int .i64) 3 w' w.heap.size (fun _ => True) v [] ∧ Below w.heap.size w w' := by
  have HC := Aside0.mk hC
  clear hC
  by_cases h0 : block < 0
  · have hb0 : decide (block < 0) = true := decide_eq_true h0
    clear hno
    go_enter Try.func9, Try.ntmps9
    go_wp2_with (first
      | ((with_reducible refine gate_dst (N := 3) rfl ?_); refine box_event ?hg (N := 3) ?hd (cs := #[.int .i64 fn, .int .i64 rg, .slice Ab bs.length cb]) (t := 24) ?hr ?_; (case hd => rfl); (case hg => rfl); (case hr => first | (go_simp; done) | (go_simp; rfl)); intro g1 hg1 w1 hA1 hb1; have HB1 := Aside0.mk hb1; have u2 : w1.cell? ⟨g1, 2, none⟩ = some (.slice Ab bs.length cb) := ((blk_cell hA1 2).trans rfl); clear hg1 hA1 hb1))
    go_ret
    exact ⟨_, rfl, Kd.R_nil _ _ _ _ _, HB1.out⟩
  have hb0 : decide (block < 0) = false := decide_eq_false h0
  by_cases h1 : (bs.length : Int) ≤ block
  · have hb1 : decide ((bs.length : Int) ≤ block) = true := decide_eq_true h1
    clear hno
    go_enter Try.func9, Try.ntmps9
    go_wp2_with (first
      | ((with_reducible refine gate_dst (N := 3) rfl ?_); refine box_event ?hg (N := 3) ?hd (cs := #[.int .i64 fn, .int .i64 rg, .slice Ab bs.length cb]) (t := 24) ?hr ?_; (case hd => rfl); (case hg => rfl); (case hr => first | (go_simp; done) | (go_simp; rfl)); intro g1 hg1 w1 hA1 hb1; have HB1 := Aside0.mk hb1; have u2 : w1.cell? ⟨g1, 2, none⟩ = some (.slice Ab bs.length cb) := ((blk_cell hA1 2).trans rfl); clear hg1 hA1 hb1))
    go_ret
    exact ⟨_, rfl, Kd.R_nil _ _ _ _ _, HB1.out⟩
  obtain ⟨b, rfl⟩ : ∃ b : Nat, block = b := ⟨block.toNat, by omega⟩
  have hb1 : decide ((bs.length : Int) ≤ b) = false := decide_eq_false h1
  have hbi : (b : Int) < bs.length := by omega
  obtain ⟨ad, A1, c1, A2, c2, e, hx0, hx1, hx2, l1, hg1, l2, hg2⟩ := rd_block HC.out (Below.refl _ w) b (by omega)
  subst e
  clear hx0 hx2 l1 hg1 l2 hg2
  by_cases h2 : ins < 0
  · have hi0 : decide (ins < 0) = true := decide_eq_true h2
    clear hno
    go_enter Try.func9, Try.ntmps9
    go_wp2_with (first
      | ((with_reducible refine gate_dst (N := 3) rfl ?_); refine box_event ?hg (N := 3) ?hd (cs := #[.int .i64 fn, .int .i64 rg, .slice (some ad) bs.length cb]) (t := 24) ?hr ?_; (case hd => rfl); (case hg => rfl); (case hr => first | (go_simp; done) | (go_simp; rfl)); intro g1 hg1 w1 hA1 hb1; have HB1 := Aside0.mk hb1; have u2 : w1.cell? ⟨g1, 2, none⟩ = some (.slice (some ad) bs.length cb) := ((blk_cell hA1 2).trans rfl); replace hx1 := pw_cell_below hb1 hx1; clear hg1 hA1 hb1))
    go_ret
    exact ⟨_, rfl, Kd.R_nil _ _ _ _ _, HB1.out⟩
  have hi0 : decide (ins < 0) = false := decide_eq_false h2
  have h3 : ((rd_T43 bs b).f1.length : Int) ≤ ins := by
    apply Classical.byContradiction
    intro h3
    exact hno ⟨by omega, by omega, by omega, by omega⟩
  have hi1 : decide (((rd_T43 bs b).f1.length : Int) ≤ ins) = true := decide_eq_true h3
  clear hno
  go_enter Try.func9, Try.ntmps9
  go_wp2_with (first
    | ((with_reducible refine gate_dst (N := 3) rfl ?_); refine box_event ?hg (N := 3) ?hd (cs := #[.int .i64 fn, .int .i64 rg, .slice (some ad) bs.length cb]) (t := 24) ?hr ?_; (case hd => rfl); (case hg => rfl); (case hr => first | (go_simp; done) | (go_simp; rfl)); intro g1 hg1 w1 hA1 hb1; have HB1 := Aside0.mk hb1; have u2 : w1.cell? ⟨g1, 2, none⟩ = some (.slice (some ad) bs.length cb) := ((blk_cell hA1 2).trans rfl); replace hx1 := pw_cell_below hb1 hx1; clear hg1 hA1 hb1))
  go_ret
  exact ⟨_, rfl, Kd.R_nil _ _ _ _ _, HB1.out⟩
theorem rafter_calls (fn rg : Int) (Ab : Option Addr) (cb : Nat) (bs : List S43) (V : Nat → RS) (block ins : Int) (w : World) (hC : Kd.C k43 w Ab bs.length bs) (hcb : bs.length ≤ cb) (hf : FitC bs) (hV : Lfp (codeOf bs) V) :
    Calls Try.prog 9 #[.agg #[.int .i64 fn, .int .i64 rg, .slice Ab bs.length cb], .int .i64 block, .int .i64 ins] w fun e w' => ∃ v, e = .returned v ∧ Kd.R (Kd.int .i64) 3 w' w.heap.size (fun _ => True) v (after bs V block ins) ∧ Below w.heap.size w w' := by
  unfold after
  split
  · rename_i h
    obtain ⟨b, rfl⟩ : ∃ b : Nat, block = b := ⟨block.toNat, by omega⟩
    obtain ⟨i, rfl⟩ : ∃ b : Nat, ins = b := ⟨ins.toNat, by omega⟩
    simp only [Int.toNat_natCast]
    exact rafter_main fn rg Ab cb bs V b i w hC hcb hf hV (by omega) (by omega)
  · rename_i h
    exact rafter_none fn rg Ab cb bs block ins w hC h
end Go.Proofs.Ytklknkfoafdgpaa.LiveRefA
