/- The reference's Run, walked. -/
import Derived.Test.YtklknkfoafdgpaaLiveRefP
import Derived.Test.YtklknkfoafdgpaaLiveRunW
namespace Go.Proofs.Ytklknkfoafdgpaa.LiveRefR
open Go.RowKit Go.Proofs.YtklknkfoafdgpaaW.PrintWords Go.Proofs.YtklknkfoafdgpaaW.PrintLast Go.Proofs.YtklknkfoafdgpaaW.PrintMore
open Go.Proofs.Ytklknkfoafdgpaa.PLiveKnown Go.Proofs.Ytklknkfoafdgpaa.LiveT Go.Proofs.Ytklknkfoafdgpaa.LiveB Go.Proofs.Ytklknkfoafdgpaa.LiveInv Go.Proofs.Ytklknkfoafdgpaa.LiveSet Go.Proofs.Ytklknkfoafdgpaa.LiveAhead Go.Proofs.Ytklknkfoafdgpaa.LiveEnd Go.Proofs.Ytklknkfoafdgpaa.LiveSettled Go.Proofs.Ytklknkfoafdgpaa.LiveCopied Go.Proofs.Ytklknkfoafdgpaa.LiveAft Go.Proofs.Ytklknkfoafdgpaa.LiveRunP Go.Proofs.Ytklknkfoafdgpaa.LiveSame Go.Proofs.Ytklknkfoafdgpaa.LiveFit Go.Proofs.Ytklknkfoafdgpaa.LiveEvt Go.Proofs.Ytklknkfoafdgpaa.LiveAsked Go.Proofs.Ytklknkfoafdgpaa.LiveNoth Go.Proofs.Ytklknkfoafdgpaa.LiveFindP Go.Proofs.Ytklknkfoafdgpaa.LiveFindQ Go.Proofs.Ytklknkfoafdgpaa.LiveFind Go.Proofs.Ytklknkfoafdgpaa.LiveRefP
set_option linter.unusedVariables false
set_option linter.unusedSimpArgs false

/-- The reference's variables: the copy, whose blocks so far are what stays. -/
structure RQ (wF W : World) (g4 : Nat) (fn rg : Int) (Ad : Option Addr) (n cd : Nat) (ds : List S43) : Prop where
  below : Below wF.heap.size wF W
  b4 : W.heap[g4]? = some (.cells #[.int .i64 fn, .int .i64 rg, .slice Ad n cd] 24 (0, 0))
  own : Kd.R k43 43 W wF.heap.size (fun k => k ≠ g4) (.slice Ad n cd) ds
  l4 : wF.heap.size ≤ g4
theorem RQ.next {wF W W1 : World} {g4 : Nat} {fn rg : Int} {Ad : Option Addr} {n cd : Nat} {ds : List S43} (h : RQ wF W g4 fn rg Ad n cd ds) (hb : Below W.heap.size W W1) : RQ wF W1 g4 fn rg Ad n cd ds :=
  ⟨below_step h.below hb, (hb.block g4 (blk_lt h.b4)).trans h.b4, Kd.R_below h.own hb, h.l4⟩
/-- The blocks of the copy: what stays so far, then as they were. -/
def mixed (bs : List S43) (V : Nat → RS) (b : Nat) : List S43 := (runBs bs V).take b ++ bs.drop b
theorem mixed_length (bs : List S43) (V : Nat → RS) (b : Nat) (hb : b ≤ bs.length) : (mixed bs V b).length = bs.length := by
  simp [mixed, runBs_length]; omega
theorem mixed_get (bs : List S43) (V : Nat → RS) (b : Nat) (hb : b < bs.length) (z : S43) : (mixed bs V b).getD b z = rd_T43 bs b := by
  rw [rd43 bs b hb, List.getD_eq_getElem?_getD, mixed, List.getElem?_append_right (by rw [List.length_take]; omega), List.length_take, runBs_length, List.getElem?_drop]
  rw [show b + (b - min b bs.length) = b by omega, List.getElem?_eq_getElem hb]
  rfl
theorem mixed_set (bs : List S43) (V : Nat → RS) (b : Nat) (hb : b < bs.length) : (mixed bs V b).set b (runB bs.length V (rd_T43 bs b)) = mixed bs V (b + 1) := by
  unfold mixed
  rw [runBs_take bs V b hb, List.set_append_right (h := by rw [List.length_take]; omega), List.length_take, runBs_length, show b - min b bs.length = 0 by omega, List.drop_eq_getElem_cons hb, List.set_cons_zero, List.append_assoc]
  rfl

set_option maxHeartbeats 8000000 in
set_option maxRecDepth 100000 in
theorem rrun_calls (fn rg : Int) (Ab : Option Addr) (cb : Nat) (bs : List S43) (V : Nat → RS) (w : World) (hC : Kd.C k43 w Ab bs.length bs) (hcb : bs.length ≤ cb) (hf : FitC bs) (hV : Lfp (codeOf bs) V) :
    Calls Try.prog 15 #[.agg #[.int .i64 fn, .int .i64 rg, .slice Ab bs.length cb]] w fun e w' => ∃ v, e = .returned (.agg #[.int .i64 fn, .int .i64 rg, v]) ∧ Kd.R k43 43 w' w.heap.size (fun _ => True) v (runBs bs V) ∧ Below w.heap.size w w' := by
  have HC := Aside0.mk hC
  have HCB := Aside0.mk hcb
  have HFT := Aside0.mk hf
  have HV := Aside0.mk hV
  have hbm : bs.length ≤ 9223372036854775807 := Kd.C_max hC
  clear hC hcb hf hV
  go_enter Try.func15, Try.ntmps15
  go_wp2_with (first
    | ((with_reducible refine gate_dst (N := 1) rfl ?_); refine LiveRunW.zero_event 24 #[.int .i64 fn, .int .i64 rg, .slice Ab bs.length cb] rfl rfl (by first | (go_simp; done) | (go_simp; rfl)) ?_; intro g1 w1 hg1 hA1 hb1; have HA1 := Aside0.mk hA1; have HB1 := Aside0.mk hb1; clear hg1 hA1 hb1)
    | ((with_reducible refine gate_dst (N := 2) rfl ?_); refine LiveRunW.zero_event 24 #[.int .i64 0, .int .i64 0, .slice none 0 0] rfl rfl (by first | (go_simp; done) | (go_simp; rfl)) ?_; intro g2 w2 hg2 hA2 hb2; have HG2 := Aside0.mk (Nat.le_trans HB1.out.size hg2); have HA2 := Aside0.mk hA2; have HB2 := Aside0.mk (below_step HB1.out hb2); have HA12 := Aside0.mk ((hb2.block g1 (blk_lt HA1.out)).trans HA1.out); have u0 : w2.cell? ⟨g1, 0, none⟩ = some (.int .i64 fn) := ((blk_cell HA12.out 0).trans rfl); have u1 : w2.cell? ⟨g1, 1, none⟩ = some (.int .i64 rg) := ((blk_cell HA12.out 1).trans rfl); have u2 : w2.cell? ⟨g1, 2, none⟩ = some (.slice Ab bs.length cb) := ((blk_cell HA12.out 2).trans rfl); clear hg2 hA2 hb2)
    | (go_at_call 26; refine (find_calls fn rg Ab cb bs V _ (Kd.C_below HC.out HB2.out) HCB.out HFT.out HV.out).mono ?_; rintro e wF ⟨v, vs, H, f, rfl, hw3, hfw, hb3⟩; obtain ⟨A3, c3, hv, hc3, hC3⟩ := W3.C hw3; subst hv; have HF := Aside0.mk hfw; have HW := Aside0.mk hw3; have HBF := Aside0.mk (below_step HB2.out hb3); have HA1F := Aside0.mk ((hb3.block g1 (blk_lt HA12.out)).trans HA12.out); have HA2F := Aside0.mk ((hb3.block g2 (blk_lt HA2.out)).trans HA2.out); replace u0 := pw_cell_below hb3 u0; replace u1 := pw_cell_below hb3 u1; replace u2 := pw_cell_below hb3 u2; clear hw3 hfw hb3 hc3 hC3)
    | (go_at_call 19; refine (copyRegs_calls fn rg Ab cb bs _ (Kd.C_below HC.out HBF.out) HCB.out HFT.out).mono ?_; rintro e wC ⟨vD, rfl, ho, hb4⟩; obtain ⟨Ad, cd, hvD⟩ := Kd.R_slice ho; subst hvD; have HO := Aside0.mk ho; have HBC := Aside0.mk hb4; clear ho hb4 u0 u1 u2)
    | ((with_reducible refine gate_dst (N := 4) rfl ?_); refine LiveRunW.zero_event 24 #[.int .i64 0, .int .i64 0, .slice none 0 0] rfl rfl (by first | (go_simp; done) | (go_simp; rfl)) ?_; intro g4 w4 hg4 hA4 hb4; have HG4 := Aside0.mk hg4; have HA4 := Aside0.mk hA4; have HB4 := Aside0.mk hb4; have z0 : w4.cell? ⟨g4, 0, none⟩ = some (.int .i64 0) := ((blk_cell hA4 0).trans rfl); have z1 : w4.cell? ⟨g4, 1, none⟩ = some (.int .i64 0) := ((blk_cell hA4 1).trans rfl); have z2 : w4.cell? ⟨g4, 2, none⟩ = some (.slice none 0 0) := ((blk_cell hA4 2).trans rfl); have y0 := blk_frozen hA4 0; have y1 := blk_frozen hA4 1; have y2 := blk_frozen hA4 2; clear hg4 hA4 hb4))
  have H0 : Aside0 (RQ wF (((w4.setCell ⟨g4, 0, none⟩ (.int .i64 fn)).setCell ⟨g4, 1, none⟩ (.int .i64 rg)).setCell ⟨g4, 2, none⟩ (.slice Ad bs.length cd)) g4 fn rg Ad bs.length cd (mixed bs V 0)) := ⟨by
    have l4 : wF.heap.size ≤ g4 := Nat.le_trans HBC.out.size HG4.out
    have ho : Kd.R k43 43 w4 wF.heap.size (fun k => k ≠ g4) (.slice Ad bs.length cd) bs := Kd.R_mono (Kd.R_elderB HO.out g4 HG4.out |> fun h => Kd.R_below h HB4.out) (fun _ hk => hk.2)
    refine ⟨below_set (below_set (below_set (below_step HBC.out HB4.out) l4) l4) l4, blk_put (blk_put (blk_put HA4.out 0 _ rfl) 1 _ rfl) 2 _ rfl, ?_, l4⟩
    exact Kd.R_far (Kd.R_far (Kd.R_far ho (fun _ hk => hk) _) (fun _ hk => hk) _) (fun _ hk => hk) _⟩
  clear HO HBC HG4 HA4 HB4 z0 z1 z2 y0 y1 y2 HA12 HA1 HB1 HB2 HA2
  go_loopw [5] (fun v5 wi => ∃ (b : Nat), b ≤ bs.length ∧ v5 = .int .i64 b ∧ Aside0 (RQ wF wi g4 fn rg Ad bs.length cd (mixed bs V b))) (fun v5 _ => bs.length - (intOf v5).toNat)
  case atStart => exact ⟨0, by omega, rfl, H0⟩
  case round =>
    clear H0
    obtain ⟨b, hb, rfl, HR⟩ := hrel
    have u0 := pw_cell_below HR.out.below ((blk_cell HA1F.out 0).trans rfl : wF.cell? ⟨g1, 0, none⟩ = some (.int .i64 fn))
    have u1 := pw_cell_below HR.out.below ((blk_cell HA1F.out 1).trans rfl : wF.cell? ⟨g1, 1, none⟩ = some (.int .i64 rg))
    have u2 := pw_cell_below HR.out.below ((blk_cell HA1F.out 2).trans rfl : wF.cell? ⟨g1, 2, none⟩ = some (.slice Ab bs.length cb))
    by_cases hlt : b < bs.length
    · have HBL := Aside0.mk hlt
      have HML := Aside0.mk (mixed_length bs V b hb)
      have HMG := Aside0.mk (mixed_get bs V b hlt z43)
      have HMS := Aside0.mk (mixed_set bs V b hlt)
      have hbi : (b : Int) < bs.length := by omega
      obtain ⟨ad, A1, c1, A2, c2, e, hx0, hx1, hx2, l1, hg1, l2, hg2⟩ := rd_block HC.out HBF.out b hlt
      subst e
      have HX1 := Aside0.mk hx1
      have HI1 := Aside0.mk hg1
      have HFE := Aside0.mk (HFT.out.each b hlt)
      have HFI := Aside0.mk (HFT.out.ins b hlt)
      have hmx1 : (rd_T43 bs b).f1.length ≤ 9223372036854775807 := Kd.C_max hg1
      have HRB : Aside0 (runB bs.length V (rd_T43 bs b) = ⟨(rd_T43 bs b).f0, strip iOf (rd_T43 bs b).f1 (endd bs.length V (rd_T43 bs b).f2), (rd_T43 bs b).f2⟩) := ⟨rfl⟩
      have HWA : Aside0 (∀ i, want bs V b i = back (((rd_T43 bs b).f1.drop i).map iOf) (endd bs.length V (rd_T43 bs b).f2)) := ⟨fun i => rfl⟩
      have HIN : Aside0 (insOf bs b = (rd_T43 bs b).f1) := ⟨rfl⟩
      have HRO : Aside0 (rowsOf bs b = (rd_T43 bs b).f1.length + 1) := ⟨rfl⟩
      generalize rd_T43 bs b = B at *
      obtain ⟨pc, ins, nx⟩ := B
      simp only at hx0 hx1 hx2 l1 hg1 l2 hg2 hmx1
      have HX1 : Aside0 (wF.cell? ⟨(ad.add (b * 3)).block, (ad.add (b * 3)).off + 1, none⟩ = some (.slice A1 ins.length c1)) := ⟨hx1⟩
      have HI1 : Aside0 (Kd.C k47 w A1 ins.length ins) := ⟨hg1⟩
      have HFE : Aside0 (∀ i, i < ins.length → Fit47 (rd_T47 ins i)) := ⟨HFE.out⟩
      have HFI : Aside0 (ins.length * 96 ≤ 140737488355328) := ⟨HFI.out⟩
      have HRB : Aside0 (runB bs.length V ⟨pc, ins, nx⟩ = ⟨pc, strip iOf ins (endd bs.length V nx), nx⟩) := ⟨rfl⟩
      have HWA : Aside0 (∀ i, want bs V b i = back ((ins.drop i).map iOf) (endd bs.length V nx)) := ⟨HWA.out⟩
      have HIN : Aside0 (insOf bs b = ins) := ⟨HIN.out⟩
      have HRO : Aside0 (rowsOf bs b = ins.length + 1) := ⟨HRO.out⟩
      generalize endd bs.length V nx = E at *
      have HRI : Aside0 (∀ m, m < ins.length → ∃ ad3 A3 c3 A7 c7, A1 = some ad3 ∧ InsAt w (ad3.add (m * 8)) (rd_T47 ins m) A3 c3 A7 c7 ∧ RIn w (rd_T47 ins m) A3 c3 A7 c7) := ⟨fun m hm => rd_ins HI1.out m hm⟩
      obtain ⟨FK, hFK⟩ : ∃ FK : Nat → Bool, ∀ i, FK i = !idle (iOf (rd_T47 ins i)) (back ((ins.drop (i + 1)).map iOf) E) := ⟨_, fun _ => rfl⟩
      have HFK := Aside0.mk hFK
      clear hFK l1 hg1 l2 hg2 hx0 hx1 hx2 hlt hb
      have HX1w := Aside0.mk (pw_cell_below HR.out.below HX1.out)
      obtain ⟨gd, cap, hvd, hgl, hglt, hxa⟩ := Kd.R_form HR.out.own (by rw [HML.out]; exact Nat.lt_of_le_of_lt (Nat.zero_le _) HBL.out)
      injection hvd with hvd hxb hxc
      subst hvd
      clear hxa hxb hxc
      have HGD := Aside0.mk hglt
      clear hgl hglt
      go_wp2_with fail
      have H6 : Aside0 (Kd.R k47 47 wr wr.heap.size (fun _ => True) (.slice none 0 0) (pickTo ins FK 0)) := ⟨Kd.R_nil _ _ _ _ _⟩
      clear u0 u1 u2
      generalize wr = wo at *
      go_loopw [6, 7] (fun v6 v7 wi => ∃ (i : Nat), i ≤ ins.length ∧ v7 = .int .i64 i ∧ Aside0 (Below wo.heap.size wo wi) ∧ Aside0 (Kd.R k47 47 wi wo.heap.size (fun _ => True) v6 (pickTo ins FK i))) (fun _ v7 _ => ins.length - (intOf v7).toNat)
      case atStart => exact ⟨0, by omega, rfl, ⟨Below.refl _ _⟩, H6⟩
      case round =>
        clear H6
        obtain ⟨i, hi, rfl, HB, HV6⟩ := hrel
        obtain ⟨Ai, ci, hv6⟩ := Kd.R_slice HV6.out
        subst hv6
        have HRN := Aside0.mk (HR.out.next HB.out)
        have u0 := pw_cell_below HRN.out.below ((blk_cell HA1F.out 0).trans rfl : wF.cell? ⟨g1, 0, none⟩ = some (.int .i64 fn))
        have u1 := pw_cell_below HRN.out.below ((blk_cell HA1F.out 1).trans rfl : wF.cell? ⟨g1, 1, none⟩ = some (.int .i64 rg))
        have u2 := pw_cell_below HRN.out.below ((blk_cell HA1F.out 2).trans rfl : wF.cell? ⟨g1, 2, none⟩ = some (.slice (some ad) bs.length cb))
        have hx1 := pw_cell_below HRN.out.below HX1.out
        by_cases hlti : i < ins.length
        · obtain ⟨ai, B3', d3', B7', d7', e3, hin, hrin⟩ := HRI.out i hlti
          subst e3
          have HFX := Aside0.mk (HFE.out i hlti)
          have HPS := Aside0.mk (pickTo_succ ins FK i)
          have HLM := Aside0.mk (pickTo_length ins FK i)
          have HLI := Aside0.mk hlti
          have hii : (i : Int) < ins.length := by omega
          have hbw := below_step HBF.out HRN.out.below
          have HBW := Aside0.mk hbw
          have HID : Aside0 (idle (iOf (rd_T47 (insOf bs b) i)) (f b (i + 1)) = !FK i) := ⟨by rw [HF.out b (i + 1) HBL.out (by rw [HIN.out]; exact hlti), HWA.out, HIN.out, HFK.out, Bool.not_not]⟩
          have HRG : Aside0 (Regs (f b (i + 1))) := ⟨by rw [HF.out b (i + 1) HBL.out (by rw [HIN.out]; exact hlti)]; exact want_regs HV.out b (i + 1)⟩
          generalize rd_T47 ins i = x at hin hrin HFX HPS
          obtain ⟨q0, q1, q2, q3, q4, q5, q6, q7⟩ := hin.below hbw
          have HXR : Aside0 (∀ W, Below w.heap.size w W → RIn W x B3' d3' B7' d7') := ⟨fun W hW => hrin.below hW⟩
          have HWW := Aside0.mk (HW.out.next HRN.out.below)
          clear hin hrin hbw hi hlti
          generalize hgen : pickTo ins FK i = zs at HV6 HPS HLM
          clear hgen
          cases hfki : FK i
          · have HFI0 := Aside0.mk hfki
            clear hfki
            go_wp2_with (first
              | (go_at_call 34; refine (LiveRefP.idle_calls fn rg (some ad) cb (Kd.C_below HC.out HBW.out) HCB.out HWW.out b i HBL.out (by rw [HIN.out]; exact HLI.out) HRG.out).mono ?_; rw [HID.out, HFI0.out]; rintro e w9 ⟨rfl, hb9⟩; have HB9 := Aside0.mk (below_step HB.out hb9); have HV9 := Aside0.mk (Kd.R_below HV6.out hb9); clear hb9 u0 u1 u2 hx1 q0 q1 q2 q3 q4 q5 q6 q7))
            go_roundw
            case rel => exact ⟨i + 1, by have := HLI.out; omega, by go_num, HB9, ⟨by rw [HPS.out, if_neg (by rw [HFI0.out]; decide), List.append_nil]; exact HV9.out⟩⟩
            case measure => simp [intOf]; omega
          · have HFI1 := Aside0.mk hfki
            have HLE : Aside0 ((zs.length + 1) * 96 ≤ 140737488355328) := ⟨by have := HLM.out; have := HLI.out; have := HFI.out; omega⟩
            clear hfki
            go_wp2_with (first
              | (go_at_call 34; refine (LiveRefP.idle_calls fn rg (some ad) cb (Kd.C_below HC.out HBW.out) HCB.out HWW.out b i HBL.out (by rw [HIN.out]; exact HLI.out) HRG.out).mono ?_; rw [HID.out, HFI1.out]; rintro e w9 ⟨rfl, hb9⟩; have HB9 := Aside0.mk (below_step HB.out hb9); have HV9 := Aside0.mk (Kd.R_below HV6.out hb9); have HW9 := Aside0.mk (below_step HBW.out hb9); replace u2 := pw_cell_below hb9 u2; replace hx1 := pw_cell_below hb9 hx1; replace q0 := pw_cell_below hb9 q0; replace q1 := pw_cell_below hb9 q1; replace q2 := pw_cell_below hb9 q2; replace q3 := pw_cell_below hb9 q3; replace q4 := pw_cell_below hb9 q4; replace q5 := pw_cell_below hb9 q5; replace q6 := pw_cell_below hb9 q6; replace q7 := pw_cell_below hb9 q7; clear hb9 u0 u1)
              | (go_at_call 18; refine (copyIns_calls x B3' d3' B7' d7' _ (HXR.out _ HW9.out) HFX.out).mono ?_; rintro e w10 ⟨v3, v7, rfl, ho3, ho7, hb10⟩; obtain ⟨B3, d3, rfl⟩ := Kd.R_slice ho3; obtain ⟨B7, d7, rfl⟩ := Kd.R_slice ho7; have HO3 := Aside0.mk ho3; have HO7 := Aside0.mk ho7; have HB10 := Aside0.mk hb10; simp only [row47]; clear ho3 ho7 hb10 u2 hx1 q0 q1 q2 q3 q4 q5 q6 q7)
              | ((with_reducible refine gate_dst (N := 8) rfl ?_); refine box47_zero_event rfl rfl rfl ?_; intro g12 w12 hg12 hA12 hb12; have HG12 := Aside0.mk hg12; have HA12 := Aside0.mk hA12; have HB12 := Aside0.mk hb12; have z0 : w12.cell? ⟨g12, 0, none⟩ = some (.int .i64 0) := ((blk_cell hA12 0).trans rfl); have y0 := blk_frozen hA12 0; have z1 : w12.cell? ⟨g12, 1, none⟩ = some (.int .i64 0) := ((blk_cell hA12 1).trans rfl); have y1 := blk_frozen hA12 1; have z2 : w12.cell? ⟨g12, 2, none⟩ = some (.int .i64 0) := ((blk_cell hA12 2).trans rfl); have y2 := blk_frozen hA12 2; have z3 : w12.cell? ⟨g12, 3, none⟩ = some (.slice none 0 0) := ((blk_cell hA12 3).trans rfl); have y3 := blk_frozen hA12 3; have z4 : w12.cell? ⟨g12, 4, none⟩ = some (.int .i64 0) := ((blk_cell hA12 4).trans rfl); have y4 := blk_frozen hA12 4; have z5 : w12.cell? ⟨g12, 5, none⟩ = some (.int .i64 0) := ((blk_cell hA12 5).trans rfl); have y5 := blk_frozen hA12 5; have z6 : w12.cell? ⟨g12, 6, none⟩ = some (.int .i64 0) := ((blk_cell hA12 6).trans rfl); have y6 := blk_frozen hA12 6; have z7 : w12.cell? ⟨g12, 7, none⟩ = some (.slice none 0 0) := ((blk_cell hA12 7).trans rfl); have y7 := blk_frozen hA12 7; clear hg12 hA12 hb12)
              | ((with_reducible refine gate_dst (N := 50) rfl ?_); at_builtin; have BW : Aside0 (Below w9.heap.size w9 ((((((((w12.setCell ⟨g12, 0, none⟩ (.int .i64 x.f0)).setCell ⟨g12, 1, none⟩ (.int .i64 x.f1)).setCell ⟨g12, 2, none⟩ (.int .i64 x.f2)).setCell ⟨g12, 3, none⟩ (.slice B3 x.f3.length d3)).setCell ⟨g12, 4, none⟩ (.int .i64 x.f4)).setCell ⟨g12, 5, none⟩ (.int .i64 x.f5)).setCell ⟨g12, 6, none⟩ (.int .i64 x.f6)).setCell ⟨g12, 7, none⟩ (.slice B7 x.f7.length d7))) := ⟨LiveRunW.put47_below (below_step HB10.out HB12.out) (Nat.le_trans HB10.out.size HG12.out) _ _ _ _ _ _ _ _⟩; have BX : Aside0 (Below w10.heap.size w10 ((((((((w12.setCell ⟨g12, 0, none⟩ (.int .i64 x.f0)).setCell ⟨g12, 1, none⟩ (.int .i64 x.f1)).setCell ⟨g12, 2, none⟩ (.int .i64 x.f2)).setCell ⟨g12, 3, none⟩ (.slice B3 x.f3.length d3)).setCell ⟨g12, 4, none⟩ (.int .i64 x.f4)).setCell ⟨g12, 5, none⟩ (.int .i64 x.f5)).setCell ⟨g12, 6, none⟩ (.int .i64 x.f6)).setCell ⟨g12, 7, none⟩ (.slice B7 x.f7.length d7))) := ⟨LiveRunW.put47_below HB12.out HG12.out _ _ _ _ _ _ _ _⟩; refine Kd.R_append k47 (w0 := wo) wo.heap.size rfl (.tmp 47) (.tmp 49) 41 47 (.agg #[(.int .i64 0), (.int .i64 0), (.int .i64 0), (.slice none 0 0), (.int .i64 0), (.int .i64 0), (.int .i64 0), (.slice none 0 0)]) 96 rfl Try.underlying41 info47 rfl (by decide) (by omega) (.slice Ai zs.length ci) zs x [.int .i64 x.f0, .int .i64 x.f1, .int .i64 x.f2, .slice B3 x.f3.length d3, .int .i64 x.f4, .int .i64 x.f5, .int .i64 x.f6, .slice B7 x.f7.length d7] (fun _ => True) (fun k => w9.heap.size ≤ k) rfl (show _ = Value.slice (some ⟨((((((((w12.setCell ⟨g12, 0, none⟩ (.int .i64 x.f0)).setCell ⟨g12, 1, none⟩ (.int .i64 x.f1)).setCell ⟨g12, 2, none⟩ (.int .i64 x.f2)).setCell ⟨g12, 3, none⟩ (.slice B3 x.f3.length d3)).setCell ⟨g12, 4, none⟩ (.int .i64 x.f4)).setCell ⟨g12, 5, none⟩ (.int .i64 x.f5)).setCell ⟨g12, 6, none⟩ (.int .i64 x.f6)).setCell ⟨g12, 7, none⟩ (.slice B7 x.f7.length d7)).heap.size, 0, none⟩) 1 1 by rw [show ((((((((w12.setCell ⟨g12, 0, none⟩ (.int .i64 x.f0)).setCell ⟨g12, 1, none⟩ (.int .i64 x.f1)).setCell ⟨g12, 2, none⟩ (.int .i64 x.f2)).setCell ⟨g12, 3, none⟩ (.slice B3 x.f3.length d3)).setCell ⟨g12, 4, none⟩ (.int .i64 x.f4)).setCell ⟨g12, 5, none⟩ (.int .i64 x.f5)).setCell ⟨g12, 6, none⟩ (.int .i64 x.f6)).setCell ⟨g12, 7, none⟩ (.slice B7 x.f7.length d7)).heap.size = w12.heap.size by simp]; rfl) ?aP ?aK ?aF (Kd.R_below HV9.out BW.out) (below_step HB9.out BW.out) (below_step HB9.out BW.out).size HLE.out ?_; (case aP => exact k47_mkM _ _ _ x (Kd.R_lower (Kd.R_below (Kd.R_reok rfl HO3.out (fun b hb => Kd.R_base HO3.out b hb)) BX.out) HB9.out.size) (Kd.R_lower (Kd.R_below (Kd.R_mono (Kd.R_bound HO7.out) (fun _ hk => hk.2.1)) BX.out) HB9.out.size)); (case aK => intro k hk; exact ⟨trivial, fun he => by have := Kd.R_lt HV9.out k he.symm; omega⟩); (case aF => exact fun _ _ => trivial); intro v10 w11 ho hb hg hat; have HP := Aside0.mk ho; have HPB := Aside0.mk hb; clear ho hb hg hat z0 z1 z2 z3 z4 z5 z6 z7 y0 y1 y2 y3 y4 y5 y6 y7))
            go_roundw
            case rel => exact ⟨i + 1, by have := HLI.out; omega, by go_num, HPB, ⟨by rw [HPS.out, if_pos HFI1.out]; exact HP.out⟩⟩
            case measure => simp [intOf]; omega
        · obtain rfl : i = ins.length := by omega
          have hps : pickTo ins FK ins.length = strip iOf ins E := pick_strip ins E FK (fun i hi => HFK.out i)
          rw [hps] at HV6 ⊢
          generalize strip iOf ins E = zs at HV6 HRB ⊢
          clear hps hlti hi u0 u1
          obtain ⟨c, hcl, hcM, hcc, hcf⟩ := Kd.R_elem HRN.out.own z43 (b : Int) (by omega) hbi
          simp only [Int.toNat_natCast] at hcM hcc hcf
          rw [HMG.out] at hcM
          obtain ⟨vI, vN, rfl, hrI, hrN⟩ := k43_openM hcM
          have HRX := Aside0.mk hrN
          have HCC := Aside0.mk hcc
          have HCL := Aside0.mk hcl
          have t2 : wr.cell? ⟨g4, 2, none⟩ = some (.slice (some ⟨gd, 0, none⟩) bs.length cd) := (blk_cell HRN.out.b4 2).trans rfl
          clear hcl hcM hcc hcf hrI hrN
          go_wp2_with (first
            | ((with_reducible refine gate_store (t := 41) (p := 56) (v := .tmp 54) rfl ?_); refine Kd.R_store k43 (w0 := wF) wF.heap.size rfl rfl 41 (.tmp 56) (.tmp 54) rfl 43 (g := gd) (n := bs.length) (cap := cd) (b : Int) 1 (mixed bs V b) (⟨pc, zs, nx⟩ : S43) (.slice Ai zs.length ci) [.slice Ai zs.length ci] [.int .i64 pc, vI, vN] (fun k => k ≠ g4) (fun k => k ≠ g4 ∧ k ≠ gd) rfl ?off rfl rfl (by kernel_rfl) ?one HRN.out.own (by omega) hbi HCL.out (fun j u hj => by rw [Int.toNat_natCast]; exact HCC.out j u hj) (show 1 + 1 ≤ 3 by omega) ?M ?okp HRN.out.below ?_; (case off => first | rfl | (simp [add_plain]; done) | (simp [add_plain]; rfl)); (case one => intro q hq; rw [List.mem_singleton] at hq; subst hq; rfl); (case M => exact k43_mkM _ _ _ (⟨pc, zs, nx⟩ : S43) (Kd.R_lower (Kd.R_mono (Kd.R_bound HV6.out) (fun k hk => ⟨by have := blk_lt HR.out.b4; have := hk.2.1; omega, by have := HGD.out; have := hk.2.1; omega⟩)) HR.out.below.size) HRX.out); (case okp => exact fun k hk => hk); intro w5 ho hb5 hg5; have HO5 := Aside0.mk ho; have HB5 := Aside0.mk hb5; have HG5 := Aside0.mk hg5; clear ho hb5 hg5))
          go_roundw
          case rel =>
            refine ⟨b + 1, by have := HBL.out; omega, by go_num, ⟨⟨HB5.out, blk_grown HRN.out.b4 HG5.out (fun he => ?_), ?_, HRN.out.l4⟩⟩⟩
            · injection he with he
              exact HRN.out.own.1 g4 (by rw [he]; rfl) rfl
            · have h := HO5.out
              rw [Int.toNat_natCast, ← HRB.out, HMS.out] at h
              exact h
          case measure => simp [intOf]; omega
    · obtain rfl : b = bs.length := by omega
      have htk : mixed bs V bs.length = runBs bs V := by
        unfold mixed
        rw [List.take_of_length_le (by rw [runBs_length]; omega), List.drop_length, List.append_nil]
      rw [htk] at HR
      have t0 : wr.cell? ⟨g4, 0, none⟩ = some (.int .i64 fn) := (blk_cell HR.out.b4 0).trans rfl
      have t1 : wr.cell? ⟨g4, 1, none⟩ = some (.int .i64 rg) := (blk_cell HR.out.b4 1).trans rfl
      have t2 : wr.cell? ⟨g4, 2, none⟩ = some (.slice Ad bs.length cd) := (blk_cell HR.out.b4 2).trans rfl
      have HA2w := Aside0.mk ((HR.out.below.block g2 (blk_lt HA2F.out)).trans HA2F.out)
      have z0 : wr.cell? ⟨g2, 0, none⟩ = some (.int .i64 0) := (blk_cell HA2w.out 0).trans rfl
      have z1 : wr.cell? ⟨g2, 1, none⟩ = some (.int .i64 0) := (blk_cell HA2w.out 1).trans rfl
      have z2 : wr.cell? ⟨g2, 2, none⟩ = some (.slice none 0 0) := (blk_cell HA2w.out 2).trans rfl
      have f0 := blk_frozen HA2w.out 0
      have f1 := blk_frozen HA2w.out 1
      have f2 := blk_frozen HA2w.out 2
      clear u0 u1 hb
      have HRL := Aside0.mk (runBs_length bs V)
      go_wp2_with fail
      refine bodyPost_ret (results_cell_row rfl _ _ g2 24 #[.int .i64 fn, .int .i64 rg, .slice Ad bs.length cd] (0, 0) _ rfl (blk_put (blk_put (blk_put HA2w.out 0 _ rfl) 1 _ rfl) 2 _ rfl) Try.underlying24 rfl (by kernel_rfl)) rfl ?_
      have hbw := below_step HBF.out HR.out.below
      have hne : ∀ k, k ≠ g4 ∧ wF.heap.size ≤ k → k ≠ g2 := fun k hk => by have := blk_lt HA2F.out; omega
      have ho : Kd.R k43 43 wr wF.heap.size (fun k => k ≠ g4 ∧ wF.heap.size ≤ k) (.slice Ad bs.length cd) (runBs bs V) := Kd.R_mono (Kd.R_bound HR.out.own) (fun k hk => ⟨hk.1, hk.2.1⟩)
      exact ⟨_, rfl, Kd.R_lower (Kd.R_mono (Kd.R_far (Kd.R_far (Kd.R_far ho hne _) hne _) hne _) (fun _ _ => trivial)) HBF.out.size, below_set (below_set (below_set hbw HG2.out) HG2.out) HG2.out⟩
end Go.Proofs.Ytklknkfoafdgpaa.LiveRefR
