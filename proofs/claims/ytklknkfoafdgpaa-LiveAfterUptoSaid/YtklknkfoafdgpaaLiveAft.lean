/- The program's After: the registers that are asked for behind an instruction. -/
import Derived.Test.YtklknkfoafdgpaaLiveSettled
namespace Go.Proofs.Ytklknkfoafdgpaa.LiveAft
open Go.RowKit Go.Proofs.YtklknkfoafdgpaaW.PrintWords Go.Proofs.YtklknkfoafdgpaaW.PrintLast Go.Proofs.YtklknkfoafdgpaaW.PrintMore
open Go.Proofs.Ytklknkfoafdgpaa.PLiveKnown Go.Proofs.Ytklknkfoafdgpaa.LiveT Go.Proofs.Ytklknkfoafdgpaa.LiveB Go.Proofs.Ytklknkfoafdgpaa.LiveSet Go.Proofs.Ytklknkfoafdgpaa.LiveAhead Go.Proofs.Ytklknkfoafdgpaa.LiveEnd Go.Proofs.Ytklknkfoafdgpaa.LiveInv Go.Proofs.Ytklknkfoafdgpaa.LiveSettled
set_option linter.unusedVariables false
set_option linter.unusedSimpArgs false

/-- The registers of a set, rising. -/
def regsTo (S : RS) (k : Nat) : List Int := ((List.range k).filter fun (r : Nat) => S (r : Int)).map fun (r : Nat) => (r : Int)
theorem regsTo_succ (S : RS) (k : Nat) : regsTo S (k + 1) = regsTo S k ++ (if S (k : Int) = true then [(k : Int)] else []) := by
  simp only [regsTo, List.range_succ, List.filter_append, List.map_append, List.filter_cons, List.filter_nil]
  split <;> simp_all
theorem regsTo_length (S : RS) (k : Nat) : (regsTo S k).length ≤ k := by
  simp only [regsTo, List.length_map]
  exact Nat.le_trans (List.length_filter_le _ _) (by simp)
/-- What is wanted behind an instruction. -/
def behind (bs : List S43) (V : Nat → RS) (b i : Nat) : RS := back (((rd_T43 bs b).f1.drop (i + 1)).map iOf) (endd bs.length V (rd_T43 bs b).f2)
/-- What After answers. -/
def after (bs : List S43) (V : Nat → RS) (block ins : Int) : List Int :=
  if 0 ≤ block ∧ block < bs.length ∧ 0 ≤ ins ∧ ins < (rd_T43 bs block).f1.length then regsTo (behind bs V block.toNat ins.toNat) 512 else []
theorem infoI : (Try.prog.info? 3).map (fun i => (i.zero, i.size, i.bytes)) = some (some (.int .i64 0), 1, 8) := by kernel_rfl

/-- One fresh variable that holds a set. -/
structure VW (w W : World) (g : Nat) (S : RS) : Prop where
  below : Below w.heap.size w W
  at_ : At W g S
  lt : w.heap.size ≤ g
theorem VW.put {w W W1 : World} {g : Nat} {S T : RS} (h : VW w W g S) (hA : At W1 g T) (hg : W.grownBy W1 (some g)) : VW w W1 g T :=
  ⟨h.below.grown hg h.below.size (fun k hk => by cases hk; exact h.lt), hA, h.lt⟩
theorem VW.next {w W W1 : World} {g : Nat} {S : RS} (h : VW w W g S) (hb : Below W.heap.size W W1) : VW w W1 g S := ⟨below_step h.below hb, at_below h.at_ hb, h.lt⟩

set_option maxHeartbeats 8000000 in
set_option maxRecDepth 100000 in
theorem after_main (fn rg : Int) (Ab : Option Addr) (cb : Nat) (bs : List S43) (V : Nat → RS) (b i : Nat) (w : World) (hC : Kd.C k43 w Ab bs.length bs) (hn : bs.length * 64 ≤ 281474976710656) (hV : Lfp (codeOf bs) V) (hb : b < bs.length) (hi : i < (rd_T43 bs b).f1.length) :
    Calls Try.prog 11 #[.agg #[.int .i64 fn, .int .i64 rg, .slice Ab bs.length cb], .int .i64 b, .int .i64 i] w fun e w' => ∃ v, e = .returned v ∧ Kd.R (Kd.int .i64) 3 w' w.heap.size (fun _ => True) v (regsTo (behind bs V b i) 512) ∧ Below w.heap.size w w' := by
  have HC := Aside0.mk hC
  have HN := Aside0.mk hn
  have HV := Aside0.mk hV
  obtain ⟨ad, A1, c1, A2, c2, e, hx0, hx1, hx2, l1, hg1, l2, hg2⟩ := rd_block hC (Below.refl _ w) b hb
  subst e
  have HX1 := Aside0.mk hx1
  have HI1 := Aside0.mk hg1
  have hmx : (rd_T43 bs b).f1.length ≤ 9223372036854775807 := Kd.C_max hg1
  have hb0 : decide ((b : Int) < 0) = false := decide_eq_false (by omega)
  have hi0 : decide ((i : Int) < 0) = false := decide_eq_false (by omega)
  have hb1 : decide ((bs.length : Int) ≤ b) = false := decide_eq_false (by omega)
  have hi1 : decide (((rd_T43 bs b).f1.length : Int) ≤ i) = false := decide_eq_false (by omega)
  have hbi : (b : Int) < bs.length := by omega
  obtain ⟨E, hE⟩ : ∃ E, endd bs.length V (rd_T43 bs b).f2 = E := ⟨_, rfl⟩
  have HE : Aside0 (∀ V1, Lfp (codeOf bs) V1 → endd bs.length V1 (rd_T43 bs b).f2 = E) := ⟨fun V1 h1 => by rw [← hE]; exact endd_congr _ (fun n hn => h1.unique hV (by rw [codeOf_length]; exact hn))⟩
  have HER : Aside0 (Regs E) := ⟨by rw [← hE]; exact endd_regs _ (fun n hn => hV.regs (by rw [codeOf_length]; exact hn))⟩
  have hB : behind bs V b i = back (((rd_T43 bs b).f1.drop (i + 1)).map iOf) E := by rw [← hE]; rfl
  rw [hB]
  have HB0 := Aside0.mk hb
  clear hC hn hV hx0 hx1 hx2 l1 l2 hg1 hg2 hE hB hb
  have hE2 : Aside0 (∀ m, Regs (back (((rd_T43 bs b).f1.drop m).map iOf) E)) := ⟨fun m => back_regs _ HER.out⟩
  have HRI : Aside0 (∀ m, m < (rd_T43 bs b).f1.length → ∃ ad3 A3 c3 A7 c7, A1 = some ad3 ∧ InsAt w (ad3.add (m * 8)) (rd_T47 (rd_T43 bs b).f1 m) A3 c3 A7 c7 ∧ RIn w (rd_T47 (rd_T43 bs b).f1 m) A3 c3 A7 c7) := ⟨fun m hm => rd_ins HI1.out m hm⟩
  have HBD : Aside0 (∀ m, m < (rd_T43 bs b).f1.length → back (((rd_T43 bs b).f1.drop m).map iOf) E = LiveT.ahead (iOf (rd_T47 (rd_T43 bs b).f1 m)) (back (((rd_T43 bs b).f1.drop (m + 1)).map iOf) E)) := ⟨fun m hm => back_drop _ E m hm⟩
  have HX := Aside0.mk HX1.out
  generalize hins : (rd_T43 bs b).f1 = ins at *
  clear hins HI1 HX1
  have ux := HX.out
  go_enter Try.func11, Try.ntmps11
  go_wp2_with (first
    | ((with_reducible refine gate_dst (N := 3) rfl ?_); refine box_event ?hg (N := 3) ?hd (cs := #[.int .i64 fn, .int .i64 rg, .slice (some ad) bs.length cb]) (t := 24) ?hr ?_; (case hd => rfl); (case hg => rfl); (case hr => first | (go_simp; done) | (go_simp; rfl)); intro g1 hg1 w1 hA1 hb1; have HG1 : Aside0 (w.heap.size ≤ g1) := (⟨Nat.le_of_eq hg1.symm⟩); have HA1 := Aside0.mk hA1; have HB1 := Aside0.mk hb1; have u0 : w1.cell? ⟨g1, 0, none⟩ = some (.int .i64 fn) := ((blk_cell HA1.out 0).trans rfl); have u1 : w1.cell? ⟨g1, 1, none⟩ = some (.int .i64 rg) := ((blk_cell HA1.out 1).trans rfl); have u2 : w1.cell? ⟨g1, 2, none⟩ = some (.slice (some ad) bs.length cb) := ((blk_cell HA1.out 2).trans rfl); replace ux := pw_cell_below hb1 ux; clear hg1 hA1 hb1)
    | (go_at_call 28; refine (settled_calls fn rg (some ad) cb bs _ (Kd.C_below HC.out HB1.out) HN.out).mono ?_; rintro e w2 ⟨gf, gw, V1, rfl, hb2, hfl, hlf⟩; have HB2 := Aside0.mk (below_step HB1.out hb2); have HFL := Aside0.mk hfl; have HLF := Aside0.mk hlf; replace u2 := pw_cell_below hb2 u2; replace ux := pw_cell_below hb2 ux; clear hb2 hfl hlf)
    | (go_at_call 29; refine (end_calls gf fn rg (some ad) cb gw bs V1 b HB0.out _ HFL.out).mono ?_; rw [HE.out V1 HLF.out]; rintro e w5 ⟨rfl, hb5⟩; have HB5 := Aside0.mk (below_step HB2.out hb5); replace u2 := pw_cell_below hb5 u2; replace ux := pw_cell_below hb5 ux; clear hb5)
    | ((with_reducible refine gate_dst (N := 7) rfl ?_); refine setAlloc_event rfl rfl rfl ?_; intro gs w6 hgs hA6 hb6; have HV6 : Aside0 (VW w5 w6 gs none') := (⟨⟨hb6, hA6, hgs⟩⟩); have U2 := Aside0.mk u2; have UX := Aside0.mk ux; clear hgs hA6 hb6 u2 ux)
    | (refine setStore_event rfl rfl rfl rfl rfl HV6.out.at_ ?_; intro w7 hA7 hg7; have HV7 : Aside0 (VW w5 w7 gs E) := (⟨HV6.out.put hA7 hg7⟩); have u2 := pw_cell_below HV7.out.below U2.out; have ux := pw_cell_below HV7.out.below UX.out; clear hA7 hg7))
  have H0 : Aside0 (VW w5 w7 gs (back ((ins.drop ins.length).map iOf) E)) := ⟨by rw [List.drop_length]; exact HV7.out⟩
  clear u0 u1 u2 ux HV6 HV7 HA1 HB1 HB2 HFL HLF HG1 hb0 hi0 hb1 hi1
  have HI := Aside0.mk hi
  clear hi
  (try (rename_i hq1 hq2; clear hq1 hq2))
  go_loopw [8] (fun v8 wi => ∃ (m : Nat) (i1 : Int), i + 1 ≤ m ∧ m ≤ ins.length ∧ i1 = (m : Int) - 1 ∧ v8 = .int .i64 i1 ∧ Aside0 (VW w5 wi gs (back ((ins.drop m).map iOf) E))) (fun v8 _ => (intOf v8 + 1).toNat)
  case atStart => exact ⟨ins.length, (ins.length : Int) - 1, by omega, by omega, rfl, by go_num, H0⟩
  case round =>
    clear H0
    obtain ⟨m, i1, hm1, hm, hi1', rfl, HA⟩ := hrel
    have HM1 := Aside0.mk hm1
    have HM := Aside0.mk hm
    by_cases h0 : m = i + 1
    · subst h0
      obtain rfl : i1 = (i : Int) := by omega
      have hreg := hE2.out (i + 1)
      obtain ⟨S, hS⟩ : ∃ S, back ((ins.drop (i + 1)).map iOf) E = S := ⟨_, rfl⟩
      rw [hS] at hreg HA
      have HSE := Aside0.mk hS
      clear hS
      have HREG := Aside0.mk hreg
      clear hreg hm1 hm hi1'
      have hgt : decide ((i : Int) < i) = false := decide_eq_false (by omega)
      go_wp2_with fail
      have HR0 : Aside0 (Kd.R (Kd.int .i64) 3 wr w5.heap.size (fun k => k ≠ gs) (.slice none 0 0) (regsTo S 0)) := ⟨Kd.R_nil _ _ _ _ _⟩
      go_loopw [9, 63] (fun v9 v63 wi => ∃ (k : Nat), k ≤ 512 ∧ v63 = .int .i64 k ∧ Aside0 (VW w5 wi gs S) ∧ Aside0 (Kd.R (Kd.int .i64) 3 wi w5.heap.size (fun k => k ≠ gs) v9 (regsTo S k))) (fun _ v63 _ => 512 - (intOf v63).toNat)
      case atStart => exact ⟨0, by omega, rfl, HA, HR0⟩
      case round =>
        clear HA HR0
        obtain ⟨k, hk, rfl, HA, HR⟩ := hrel
        by_cases hlt : k < 512
        · obtain ⟨t, ht⟩ : ∃ t, S (k : Int) = t := ⟨_, rfl⟩
          have HT := Aside0.mk ht
          have HSU := Aside0.mk (regsTo_succ S k)
          have hlen := Aside0.mk (regsTo_length S k)
          clear ht
          obtain ⟨s0, s1, s2, s3, s4, s5, s6, s7, f0, f1, f2, f3, f4, f5, f6, f7⟩ := cells8 HA.out.at_
          clear f0 f1 f2 f3 f4 f5 f6 f7
          cases t
          · go_wp2_with (first
              | (go_at_call 31; refine (has_calls S HREG.out k _).mono ?_; rw [HT.out]; rintro e w8 ⟨rfl, hb8⟩; have HA8 := Aside0.mk (HA.out.next hb8); have HR8 := Aside0.mk (Kd.R_below HR.out hb8); clear hb8))
            go_roundw
            case rel => exact ⟨k + 1, by omega, by go_num, HA8, ⟨by rw [HSU.out, if_neg (by rw [HT.out]; decide), List.append_nil]; exact HR8.out⟩⟩
            case measure => simp [intOf]; omega
          · go_wp2_with (first
              | (go_at_call 31; refine (has_calls S HREG.out k _).mono ?_; rw [HT.out]; rintro e w8 ⟨rfl, hb8⟩; have HA8 := Aside0.mk (HA.out.next hb8); have HR8 := Aside0.mk (Kd.R_below HR.out hb8); clear hb8)
              | (at_builtin; refine Kd.R_append (Kd.int .i64) (w0 := w5) w5.heap.size rfl (.tmp 69) (.tmp 71) 25 3 (.int .i64 0) 8 rfl Try.underlying25 infoI rfl (by decide) (by omega) _ (regsTo S k) (k : Int) [.int .i64 k] (fun k => k ≠ gs) (fun _ => False) rfl rfl rfl (fun _ hk => hk.elim) (fun k hk => Nat.ne_of_gt (Nat.lt_of_lt_of_le (blk_lt HA8.out.at_) hk)) HR8.out HA8.out.below HA8.out.below.size (by have := hlen.out; omega) ?_; intro v9 w9 ho hb hg hat; have HR9 := Aside0.mk ho; have HA9 : Aside0 (VW w5 w9 gs S) := (⟨⟨hb, at_grown HA8.out.at_ hg (fun he => HR8.out.1 gs he.symm rfl), HA8.out.lt⟩⟩); clear ho hb hg hat))
            go_roundw
            case rel => exact ⟨k + 1, by omega, by go_num, HA9, ⟨by rw [HSU.out, if_pos HT.out]; exact HR9.out⟩⟩
            case measure => simp [intOf]; omega
        · obtain rfl : k = 512 := by omega
          go_wp2_with fail
          go_ret
          exact ⟨_, rfl, by rw [HSE.out]; exact Kd.R_lower (Kd.R_mono HR.out (fun _ _ => trivial)) HB5.out.size, below_step HB5.out HA.out.below⟩
    · obtain ⟨m, rfl⟩ : ∃ b, m = b + 1 := ⟨m - 1, by omega⟩
      obtain rfl : i1 = (m : Int) := by omega
      have hgt : decide ((m : Int) > i) = true := decide_eq_true (by omega)
      have hgt2 : decide ((i : Int) < m) = true := decide_eq_true (by omega)
      have hgt3 : (i : Int) < m := by omega
      clear hi1' h0
      obtain ⟨ad3, A3, c3, A7, c7, e3, hin, hrin⟩ := HRI.out m (by omega)
      subst e3
      have hbe := HBD.out m (by omega)
      have hreg := hE2.out (m + 1)
      generalize back ((ins.drop (m + 1)).map iOf) E = S1 at hbe hreg HA
      generalize rd_T47 ins m = x at hbe hin hrin
      have HBE := Aside0.mk hbe
      have HREG := Aside0.mk hreg
      have hbw := below_step HB5.out HA.out.below
      clear hbe hreg
      obtain ⟨q0, q1, q2, q3, q4, q5, q6, q7⟩ := hin.below hbw
      have HRIN := Aside0.mk (hrin.below hbw)
      have u2 := pw_cell_below HA.out.below U2.out
      have ux := pw_cell_below HA.out.below UX.out
      obtain ⟨s0, s1, s2, s3, s4, s5, s6, s7, f0, f1, f2, f3, f4, f5, f6, f7⟩ := cells8 HA.out.at_
      clear f0 f1 f2 f3 f4 f5 f6 f7 hin hrin hbw
      have hmi : (m : Int) < ins.length := by omega
      clear hm1 hm
      go_wp2_with fail
      go_region_with (go_at_call 30; refine (ahead_calls x A3 c3 A7 c7 S1 HREG.out _ (HRIN.out.below (below_drew (Below.refl _ wr)))).mono ?_; rintro e w8 ⟨rfl, hb0⟩; have hb := below_step (below_drew (Below.refl _ wr)) hb0; obtain ⟨r0, r1, r2, r3, r4, r5, r6, r7, f0, f1, f2, f3, f4, f5, f6, f7⟩ := cells8 (at_below HA.out.at_ hb); have HB8 := Aside0.mk hb; clear hb hb0; simp only [setV, cellsV, LiveSet.u64])
      all_goals (
        have HP : Aside0 (VW w5 (put8 w8 gs (LiveT.ahead (iOf x) S1)) gs (LiveT.ahead (iOf x) S1)) := (⟨(HA.out.next HB8.out).put (put8_at (at_below HA.out.at_ HB8.out) _) (put8_grown _ _ _)⟩)
        clear q0 q1 q2 q3 q4 q5 q6 q7 u2 ux s0 s1 s2 s3 s4 s5 s6 s7 r0 r1 r2 r3 r4 r5 r6 r7 f0 f1 f2 f3 f4 f5 f6 f7
        go_wp2_with fail
        go_roundw
        case rel =>
          refine ⟨_, _, _, _, _, _, _, _, _, _, _, _, _, _, _, _, _, ?_, rfl⟩
          exact ⟨m, (m : Int) - 1, by omega, by have := HM.out; omega, rfl, rfl, by rw [HBE.out]; exact HP⟩
        case measure => simp [intOf])

set_option maxHeartbeats 8000000 in
set_option maxRecDepth 100000 in
theorem after_none (fn rg : Int) (Ab : Option Addr) (cb : Nat) (bs : List S43) (block ins : Int) (w : World) (hC : Kd.C k43 w Ab bs.length bs) (hno : ¬ (0 ≤ block ∧ block < bs.length ∧ 0 ≤ ins ∧ ins < (rd_T43 bs block).f1.length)) :
    Calls Try.prog 11 #[.agg #[.int .i64 fn, .int .i64 rg, .slice Ab bs.length cb], .int .i64 block, .int .i64 ins] w fun e w' => ∃ v, e = .returned v ∧ Kd.R (Kd.int .i64) 3 w' w.heap.size (fun _ => True) v [] ∧ Below w.heap.size w w' := by
  have HC := Aside0.mk hC
  clear hC
  by_cases h0 : block < 0
  · have hb0 : decide (block < 0) = true := decide_eq_true h0
    clear hno
    go_enter Try.func11, Try.ntmps11
    go_wp2_with (first
      | ((with_reducible refine gate_dst (N := 3) rfl ?_); refine box_event ?hg (N := 3) ?hd (cs := #[.int .i64 fn, .int .i64 rg, .slice Ab bs.length cb]) (t := 24) ?hr ?_; (case hd => rfl); (case hg => rfl); (case hr => first | (go_simp; done) | (go_simp; rfl)); intro g1 hg1 w1 hA1 hb1; have HB1 := Aside0.mk hb1; have u2 : w1.cell? ⟨g1, 2, none⟩ = some (.slice Ab bs.length cb) := ((blk_cell hA1 2).trans rfl); clear hg1 hA1 hb1))
    go_ret
    exact ⟨_, rfl, Kd.R_nil _ _ _ _ _, HB1.out⟩
  have hb0 : decide (block < 0) = false := decide_eq_false h0
  by_cases h1 : (bs.length : Int) ≤ block
  · have hb1 : decide ((bs.length : Int) ≤ block) = true := decide_eq_true h1
    clear hno
    go_enter Try.func11, Try.ntmps11
    go_wp2_with (first
      | ((with_reducible refine gate_dst (N := 3) rfl ?_); refine box_event ?hg (N := 3) ?hd (cs := #[.int .i64 fn, .int .i64 rg, .slice Ab bs.length cb]) (t := 24) ?hr ?_; (case hd => rfl); (case hg => rfl); (case hr => first | (go_simp; done) | (go_simp; rfl)); intro g1 hg1 w1 hA1 hb1; have HB1 := Aside0.mk hb1; have u2 : w1.cell? ⟨g1, 2, none⟩ = some (.slice Ab bs.length cb) := ((blk_cell hA1 2).trans rfl); clear hg1 hA1 hb1))
    go_ret
    exact ⟨_, rfl, Kd.R_nil _ _ _ _ _, HB1.out⟩
  obtain ⟨b, rfl⟩ : ∃ b : Nat, block = b := ⟨block.toNat, by omega⟩
  have hb1 : decide ((bs.length : Int) ≤ b) = false := decide_eq_false h1
  have hbi : (b : Int) < bs.length := by omega
  obtain ⟨ad, A1, c1, A2, c2, e, hx0, hx1, hx2, l1, hg1, l2, hg2⟩ := rd_block HC.out (Below.refl _ w) b (by omega)
  subst e
  clear hx0 hx2 l1 hg1 l2 hg2
  by_cases h2 : ins < 0
  · have hi0 : decide (ins < 0) = true := decide_eq_true h2
    clear hno
    go_enter Try.func11, Try.ntmps11
    go_wp2_with (first
      | ((with_reducible refine gate_dst (N := 3) rfl ?_); refine box_event ?hg (N := 3) ?hd (cs := #[.int .i64 fn, .int .i64 rg, .slice (some ad) bs.length cb]) (t := 24) ?hr ?_; (case hd => rfl); (case hg => rfl); (case hr => first | (go_simp; done) | (go_simp; rfl)); intro g1 hg1 w1 hA1 hb1; have HB1 := Aside0.mk hb1; have u2 : w1.cell? ⟨g1, 2, none⟩ = some (.slice (some ad) bs.length cb) := ((blk_cell hA1 2).trans rfl); replace hx1 := pw_cell_below hb1 hx1; clear hg1 hA1 hb1))
    go_ret
    exact ⟨_, rfl, Kd.R_nil _ _ _ _ _, HB1.out⟩
  have hi0 : decide (ins < 0) = false := decide_eq_false h2
  have h3 : ((rd_T43 bs b).f1.length : Int) ≤ ins := by
    apply Classical.byContradiction
    intro h3
    exact hno ⟨by omega, by omega, by omega, by omega⟩
  have hi1 : decide (((rd_T43 bs b).f1.length : Int) ≤ ins) = true := decide_eq_true h3
  clear hno
  go_enter Try.func11, Try.ntmps11
  go_wp2_with (first
    | ((with_reducible refine gate_dst (N := 3) rfl ?_); refine box_event ?hg (N := 3) ?hd (cs := #[.int .i64 fn, .int .i64 rg, .slice (some ad) bs.length cb]) (t := 24) ?hr ?_; (case hd => rfl); (case hg => rfl); (case hr => first | (go_simp; done) | (go_simp; rfl)); intro g1 hg1 w1 hA1 hb1; have HB1 := Aside0.mk hb1; have u2 : w1.cell? ⟨g1, 2, none⟩ = some (.slice (some ad) bs.length cb) := ((blk_cell hA1 2).trans rfl); replace hx1 := pw_cell_below hb1 hx1; clear hg1 hA1 hb1))
  go_ret
  exact ⟨_, rfl, Kd.R_nil _ _ _ _ _, HB1.out⟩
theorem after_calls (fn rg : Int) (Ab : Option Addr) (cb : Nat) (bs : List S43) (V : Nat → RS) (block ins : Int) (w : World) (hC : Kd.C k43 w Ab bs.length bs) (hn : bs.length * 64 ≤ 281474976710656) (hV : Lfp (codeOf bs) V) :
    Calls Try.prog 11 #[.agg #[.int .i64 fn, .int .i64 rg, .slice Ab bs.length cb], .int .i64 block, .int .i64 ins] w fun e w' => ∃ v, e = .returned v ∧ Kd.R (Kd.int .i64) 3 w' w.heap.size (fun _ => True) v (after bs V block ins) ∧ Below w.heap.size w w' := by
  unfold after
  split
  · rename_i h
    obtain ⟨b, rfl⟩ : ∃ b : Nat, block = b := ⟨block.toNat, by omega⟩
    obtain ⟨i, rfl⟩ : ∃ b : Nat, ins = b := ⟨ins.toNat, by omega⟩
    simp only [Int.toNat_natCast]
    exact after_main fn rg Ab cb bs V b i w hC hn hV (by omega) (by omega)
  · rename_i h
    exact after_none fn rg Ab cb bs block ins w hC h
end Go.Proofs.Ytklknkfoafdgpaa.LiveAft
