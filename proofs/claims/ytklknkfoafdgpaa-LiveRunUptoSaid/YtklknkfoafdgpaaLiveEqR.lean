/- Two like codes: the comparison says so. -/
import Derived.Test.YtklknkfoafdgpaaLiveEqI
import Derived.Test.YtklknkfoafdgpaaLiveEvt
namespace Go.Proofs.Ytklknkfoafdgpaa.LiveEqR
open Go.RowKit Go.Proofs.YtklknkfoafdgpaaW.PrintWords Go.Proofs.YtklknkfoafdgpaaW.PrintLast Go.Proofs.YtklknkfoafdgpaaW.PrintMore
open Go.Proofs.Ytklknkfoafdgpaa.PLiveKnown Go.Proofs.Ytklknkfoafdgpaa.LiveT Go.Proofs.Ytklknkfoafdgpaa.LiveB Go.Proofs.Ytklknkfoafdgpaa.LiveSet Go.Proofs.Ytklknkfoafdgpaa.LiveAhead Go.Proofs.Ytklknkfoafdgpaa.LiveEnd Go.Proofs.Ytklknkfoafdgpaa.LiveSettled Go.Proofs.Ytklknkfoafdgpaa.LiveFit Go.Proofs.Ytklknkfoafdgpaa.LiveEqI
set_option linter.unusedVariables false
set_option linter.unusedSimpArgs false

def r17_13_T : Bool × List (List Nat × List Nat) := (true, [([], []), ([0], [0]), ([], []), ([1, 2], [1, 2]), ([3], [3]), ([], []), ([5], [5]), ([], []), ([6, 7], [6, 7]), ([8], [8]), ([4, 9], [4, 9]), ([10], [10])])
def r17_13_B : List Nat := [0, 1, 0, 7, 15, 0, 32, 0, 224, 480, 1023, 2047]
theorem r17_13_tab : rtab .any (opsOf Try.f17 13) = r17_13_T := by kernel_rfl
theorem r17_13_bits : waitsOk r17_13_T.2 r17_13_B = true := by kernel_rfl
set_option maxHeartbeats 8000000 in
set_option maxRecDepth 100000 in
theorem regs17_calls (fn rg : Int) (bs : List S43) (A B : Option Addr) (c d : Nat) (w : World) (h : Kd.C k43 w A bs.length bs) (h1 : Kd.C k43 w B bs.length bs) :
    Calls Try.prog 17 #[.agg #[.int .i64 fn, .int .i64 rg, .slice A bs.length c], .agg #[.int .i64 fn, .int .i64 rg, .slice B bs.length d]] w fun e w' => e = .returned (.bool true) ∧ Below w.heap.size w w' := by
  have H0 := Aside0.mk h
  have H1 := Aside0.mk h1
  have hlm : bs.length ≤ 9223372036854775807 := Kd.C_max h
  clear h h1
  go_enter Try.func17, Try.ntmps17
  go_wp2_with (first
    | ((with_reducible refine gate_dst (N := 2) rfl ?_); refine LiveEvt.zero_event 24 #[.int .i64 fn, .int .i64 rg, .slice A bs.length c] rfl rfl (by first | (go_simp; done) | (go_simp; rfl)) ?_; intro g2 w1 hg2 hA2 hb1; have HP2 := Aside0.mk hA2; have HB1 := Aside0.mk hb1; clear hg2 hA2 hb1)
    | ((with_reducible refine gate_dst (N := 3) rfl ?_); refine LiveEvt.zero_event 24 #[.int .i64 fn, .int .i64 rg, .slice B bs.length d] rfl rfl (by first | (go_simp; done) | (go_simp; rfl)) ?_; intro g3 w2 hg3 hA3 hb2; have HP3 := Aside0.mk hA3; replace HP2 := Aside0.mk ((hb2.block g2 (blk_lt HP2.out)).trans HP2.out); have HB2 := Aside0.mk (below_step HB1.out hb2); have u0 : w2.cell? ⟨g2, 0, none⟩ = some (.int .i64 fn) := ((blk_cell HP2.out 0).trans rfl); have u1 : w2.cell? ⟨g2, 1, none⟩ = some (.int .i64 rg) := ((blk_cell HP2.out 1).trans rfl); have u2 : w2.cell? ⟨g2, 2, none⟩ = some (.slice A bs.length c) := ((blk_cell HP2.out 2).trans rfl); have v0 : w2.cell? ⟨g3, 0, none⟩ = some (.int .i64 fn) := ((blk_cell HP3.out 0).trans rfl); have v1 : w2.cell? ⟨g3, 1, none⟩ = some (.int .i64 rg) := ((blk_cell HP3.out 1).trans rfl); have v2 : w2.cell? ⟨g3, 2, none⟩ = some (.slice B bs.length d) := ((blk_cell HP3.out 2).trans rfl); clear hg3 hA3 hb2))
  clear u0 u1 u2 v0 v1 v2
  go_loopw [5] (fun v5 wi => ∃ i : Nat, i ≤ bs.length ∧ v5 = .int .i64 i ∧ Aside0 (Below w2.heap.size w2 wi)) (fun v5 _ => bs.length - (intOf v5).toNat)
  case atStart => exact ⟨0, by omega, rfl, ⟨Below.refl _ w2⟩⟩
  case round =>
    obtain ⟨i, hi, rfl, HB⟩ := hrel
    have u2 : wr.cell? ⟨g2, 2, none⟩ = some (.slice A bs.length c) := pw_cell_below HB.out ((blk_cell HP2.out 2).trans rfl)
    by_cases hlt : i < bs.length
    · have v2 : wr.cell? ⟨g3, 2, none⟩ = some (.slice B bs.length d) := pw_cell_below HB.out ((blk_cell HP3.out 2).trans rfl)
      obtain ⟨ad, A1, c1, A2, c2, e1, p0, p1, p2, l1, hg1, l2, hg2⟩ := rd_block H0.out (below_step HB2.out HB.out) i hlt
      obtain ⟨ae, B1, d1, B2, d2, e2, q0, q1, q2, k1, hk1, k2, hk2⟩ := rd_block H1.out (below_step HB2.out HB.out) i hlt
      subst e1 e2
      generalize rd_T43 bs i = X at *
      have hli : (i : Int) < bs.length := by omega
      have hxm : X.f1.length ≤ 9223372036854775807 := Kd.C_max hg1
      have HLT := Aside0.mk hlt
      have K1 := Aside0.mk hg1
      have K2 := Aside0.mk hg2
      have K3 := Aside0.mk hk1
      have K4 := Aside0.mk hk2
      have K5 := Aside0.mk l2
      have K6 := Aside0.mk k2
      clear hg1 hg2 hk1 hk2 l1 l2 k1 k2 hlt hi
      go_upto_region 7 with ((with_reducible refine gate_dst (N := 6) rfl ?_); refine LiveEvt.zero_event 43 #[.int .i64 0, .slice none 0 0, .slice none 0 0] rfl rfl (by first | (go_simp; done) | (go_simp; rfl)) ?_; intro g6 w5 hg6 hAg6 hbg6; have HGg6 := Aside0.mk hg6; have HAg6 := Aside0.mk hAg6; have HBg6 := Aside0.mk hbg6; have z0 : w5.cell? ⟨g6, 0, none⟩ = some (.int .i64 0) := ((blk_cell hAg6 0).trans rfl); have y0 := blk_frozen hAg6 0; have z1 : w5.cell? ⟨g6, 1, none⟩ = some (.slice none 0 0) := ((blk_cell hAg6 1).trans rfl); have y1 := blk_frozen hAg6 1; have z2 : w5.cell? ⟨g6, 2, none⟩ = some (.slice none 0 0) := ((blk_cell hAg6 2).trans rfl); have y2 := blk_frozen hAg6 2; clear hg6 hAg6 hbg6)
      have HXg6 : Aside0 (Below wr.heap.size wr (((w5.setCell ⟨g6, 0, none⟩ (.int .i64 X.f0)).setCell ⟨g6, 1, none⟩ (.slice A1 X.f1.length c1)).setCell ⟨g6, 2, none⟩ (.slice A2 X.f2.length c2))) := ⟨below_set (below_set (below_set HBg6.out HGg6.out) HGg6.out) HGg6.out⟩
      have HPg6 : Aside0 ((((w5.setCell ⟨g6, 0, none⟩ (.int .i64 X.f0)).setCell ⟨g6, 1, none⟩ (.slice A1 X.f1.length c1)).setCell ⟨g6, 2, none⟩ (.slice A2 X.f2.length c2)).heap[g6]? = some (.cells #[.int .i64 X.f0, .slice A1 X.f1.length c1, .slice A2 X.f2.length c2] 43 (0, 0))) := ⟨blk_put (blk_put (blk_put HAg6.out 0 _ rfl) 1 _ rfl) 2 _ rfl⟩
      generalize (((w5.setCell ⟨g6, 0, none⟩ (.int .i64 X.f0)).setCell ⟨g6, 1, none⟩ (.slice A1 X.f1.length c1)).setCell ⟨g6, 2, none⟩ (.slice A2 X.f2.length c2)) = w6 at HXg6 HPg6 ⊢
      clear z0 z1 z2 y0 y1 y2 HAg6 HBg6 HGg6
      replace v2 := pw_cell_below HXg6.out v2
      replace q0 := pw_cell_below HXg6.out q0
      replace q1 := pw_cell_below HXg6.out q1
      replace q2 := pw_cell_below HXg6.out q2
      clear u2 p0 p1 p2
      go_upto_region 8 with ((with_reducible refine gate_dst (N := 7) rfl ?_); refine LiveEvt.zero_event 43 #[.int .i64 0, .slice none 0 0, .slice none 0 0] rfl rfl (by first | (go_simp; done) | (go_simp; rfl)) ?_; intro g7 w7 hg7 hAg7 hbg7; have HGg7 := Aside0.mk hg7; have HAg7 := Aside0.mk hAg7; have HBg7 := Aside0.mk hbg7; have z0 : w7.cell? ⟨g7, 0, none⟩ = some (.int .i64 0) := ((blk_cell hAg7 0).trans rfl); have y0 := blk_frozen hAg7 0; have z1 : w7.cell? ⟨g7, 1, none⟩ = some (.slice none 0 0) := ((blk_cell hAg7 1).trans rfl); have y1 := blk_frozen hAg7 1; have z2 : w7.cell? ⟨g7, 2, none⟩ = some (.slice none 0 0) := ((blk_cell hAg7 2).trans rfl); have y2 := blk_frozen hAg7 2; clear hg7 hAg7 hbg7)
      have HXg7 : Aside0 (Below w6.heap.size w6 (((w7.setCell ⟨g7, 0, none⟩ (.int .i64 X.f0)).setCell ⟨g7, 1, none⟩ (.slice B1 X.f1.length d1)).setCell ⟨g7, 2, none⟩ (.slice B2 X.f2.length d2))) := ⟨below_set (below_set (below_set HBg7.out HGg7.out) HGg7.out) HGg7.out⟩
      have HPg7 : Aside0 ((((w7.setCell ⟨g7, 0, none⟩ (.int .i64 X.f0)).setCell ⟨g7, 1, none⟩ (.slice B1 X.f1.length d1)).setCell ⟨g7, 2, none⟩ (.slice B2 X.f2.length d2)).heap[g7]? = some (.cells #[.int .i64 X.f0, .slice B1 X.f1.length d1, .slice B2 X.f2.length d2] 43 (0, 0))) := ⟨blk_put (blk_put (blk_put HAg7.out 0 _ rfl) 1 _ rfl) 2 _ rfl⟩
      generalize (((w7.setCell ⟨g7, 0, none⟩ (.int .i64 X.f0)).setCell ⟨g7, 1, none⟩ (.slice B1 X.f1.length d1)).setCell ⟨g7, 2, none⟩ (.slice B2 X.f2.length d2)) = w8 at HXg7 HPg7 ⊢
      clear z0 z1 z2 y0 y1 y2 HAg7 HBg7 HGg7
      clear v2 q0 q1 q2
      have HB8 := Aside0.mk (below_step HB.out (below_step HXg6.out HXg7.out))
      have H6 := Aside0.mk ((HXg7.out.block g6 (blk_lt HPg6.out)).trans HPg6.out)
      have u0 : w8.cell? ⟨g6, 0, none⟩ = some (.int .i64 X.f0) := (blk_cell H6.out 0).trans rfl
      have u1 : w8.cell? ⟨g6, 1, none⟩ = some (.slice A1 X.f1.length c1) := (blk_cell H6.out 1).trans rfl
      have u2 : w8.cell? ⟨g6, 2, none⟩ = some (.slice A2 X.f2.length c2) := (blk_cell H6.out 2).trans rfl
      have v0 : w8.cell? ⟨g7, 0, none⟩ = some (.int .i64 X.f0) := (blk_cell HPg7.out 0).trans rfl
      have v1 : w8.cell? ⟨g7, 1, none⟩ = some (.slice B1 X.f1.length d1) := (blk_cell HPg7.out 1).trans rfl
      have v2 : w8.cell? ⟨g7, 2, none⟩ = some (.slice B2 X.f2.length d2) := (blk_cell HPg7.out 2).trans rfl
      go_wp2_with (first
        | (go_at_call 12; refine (ints_calls X.f2 A2 B2 c2 d2 _ (Kd.C_below K2.out (below_step HB2.out HB8.out)) K5.out (Kd.C_below K4.out (below_step HB2.out HB8.out)) K6.out).mono ?_; rintro e w9 ⟨rfl, hb9⟩; have HB9 := Aside0.mk hb9; replace u1 := pw_cell_below hb9 u1; replace v1 := pw_cell_below hb9 v1; clear hb9 u0 u2 v0 v2))
      clear u1 v1
      go_loopw [8] (fun v8 wi => ∃ k : Nat, k ≤ X.f1.length ∧ v8 = .int .i64 k ∧ Aside0 (Below w8.heap.size w8 wi)) (fun v8 _ => X.f1.length - (intOf v8).toNat)
      case atStart => exact ⟨0, by omega, rfl, HB9⟩
      case round =>
        clear HB9
        obtain ⟨k, hk, rfl, HBk⟩ := hrel
        have H6w := Aside0.mk ((HBk.out.block g6 (blk_lt H6.out)).trans H6.out)
        have H7w := Aside0.mk ((HBk.out.block g7 (blk_lt HPg7.out)).trans HPg7.out)
        have u1 : wr.cell? ⟨g6, 1, none⟩ = some (.slice A1 X.f1.length c1) := (blk_cell H6w.out 1).trans rfl
        by_cases hkt : k < X.f1.length
        · obtain ⟨a, A3, e3, A7, e7, ea, hin, hrin⟩ := rd_ins K1.out k hkt
          obtain ⟨b, B3, f3, B7, f7, eb, him, hrim⟩ := rd_ins K3.out k hkt
          subst ea eb
          generalize rd_T47 X.f1 k = x at *
          have hki : (k : Int) < X.f1.length := by omega
          have HKT := Aside0.mk hkt
          have HBT := Aside0.mk (below_step HB2.out (below_step HB8.out HBk.out))
          have HI0 := Aside0.mk (hin.below HBT.out)
          have HI1 := Aside0.mk (him.below HBT.out)
          have HR0 := Aside0.mk hrin
          have HR1 := Aside0.mk hrim
          have HBD := Aside0.mk (below_drew1 HBk.out)
          have HTD := Aside0.mk (below_drew1 HBT.out)
          have Z0 : Aside0 (wr.drew.cell? ⟨g6, 1, none⟩ = some (.slice (some a) X.f1.length c1)) := ⟨(blk_cell H6w.out 1).trans rfl⟩
          have Z1 : Aside0 (wr.drew.cell? ⟨g7, 1, none⟩ = some (.slice (some b) X.f1.length d1)) := ⟨(blk_cell H7w.out 1).trans rfl⟩
          have Z2 : Aside0 (wr.drew.cell? (a.add (k * 8)) = some (.int .i64 x.f0)) := ⟨HI0.out.c0⟩
          have Z3 : Aside0 (wr.drew.cell? ⟨(a.add (k * 8)).block, (a.add (k * 8)).off + 1, none⟩ = some (.int .i64 x.f1)) := ⟨HI0.out.c1⟩
          have Z4 : Aside0 (wr.drew.cell? ⟨(a.add (k * 8)).block, (a.add (k * 8)).off + 2, none⟩ = some (.int .i64 x.f2)) := ⟨HI0.out.c2⟩
          have Z5 : Aside0 (wr.drew.cell? ⟨(a.add (k * 8)).block, (a.add (k * 8)).off + 3, none⟩ = some (.slice A3 x.f3.length e3)) := ⟨HI0.out.c3⟩
          have Z6 : Aside0 (wr.drew.cell? ⟨(a.add (k * 8)).block, (a.add (k * 8)).off + 4, none⟩ = some (.int .i64 x.f4)) := ⟨HI0.out.c4⟩
          have Z7 : Aside0 (wr.drew.cell? ⟨(a.add (k * 8)).block, (a.add (k * 8)).off + 5, none⟩ = some (.int .i64 x.f5)) := ⟨HI0.out.c5⟩
          have Z8 : Aside0 (wr.drew.cell? ⟨(a.add (k * 8)).block, (a.add (k * 8)).off + 6, none⟩ = some (.int .i64 x.f6)) := ⟨HI0.out.c6⟩
          have Z9 : Aside0 (wr.drew.cell? ⟨(a.add (k * 8)).block, (a.add (k * 8)).off + 7, none⟩ = some (.slice A7 x.f7.length e7)) := ⟨HI0.out.c7⟩
          have Z10 : Aside0 (wr.drew.cell? (b.add (k * 8)) = some (.int .i64 x.f0)) := ⟨HI1.out.c0⟩
          have Z11 : Aside0 (wr.drew.cell? ⟨(b.add (k * 8)).block, (b.add (k * 8)).off + 1, none⟩ = some (.int .i64 x.f1)) := ⟨HI1.out.c1⟩
          have Z12 : Aside0 (wr.drew.cell? ⟨(b.add (k * 8)).block, (b.add (k * 8)).off + 2, none⟩ = some (.int .i64 x.f2)) := ⟨HI1.out.c2⟩
          have Z13 : Aside0 (wr.drew.cell? ⟨(b.add (k * 8)).block, (b.add (k * 8)).off + 3, none⟩ = some (.slice B3 x.f3.length f3)) := ⟨HI1.out.c3⟩
          have Z14 : Aside0 (wr.drew.cell? ⟨(b.add (k * 8)).block, (b.add (k * 8)).off + 4, none⟩ = some (.int .i64 x.f4)) := ⟨HI1.out.c4⟩
          have Z15 : Aside0 (wr.drew.cell? ⟨(b.add (k * 8)).block, (b.add (k * 8)).off + 5, none⟩ = some (.int .i64 x.f5)) := ⟨HI1.out.c5⟩
          have Z16 : Aside0 (wr.drew.cell? ⟨(b.add (k * 8)).block, (b.add (k * 8)).off + 6, none⟩ = some (.int .i64 x.f6)) := ⟨HI1.out.c6⟩
          have Z17 : Aside0 (wr.drew.cell? ⟨(b.add (k * 8)).block, (b.add (k * 8)).off + 7, none⟩ = some (.slice B7 x.f7.length f7)) := ⟨HI1.out.c7⟩
          clear hin him hrin hrim hkt hk
          go_wp2_with fail
          clear u1
          refine start_ (n := 12) (S := fun w' => w'.cell? ⟨g6, 1, none⟩ = some (.slice (some a) X.f1.length c1) ∧ w'.cell? ⟨g7, 1, none⟩ = some (.slice (some b) X.f1.length d1) ∧ w'.cell? (a.add (k * 8)) = some (.int .i64 x.f0) ∧ w'.cell? ⟨(a.add (k * 8)).block, (a.add (k * 8)).off + 1, none⟩ = some (.int .i64 x.f1) ∧ w'.cell? ⟨(a.add (k * 8)).block, (a.add (k * 8)).off + 2, none⟩ = some (.int .i64 x.f2) ∧ w'.cell? ⟨(a.add (k * 8)).block, (a.add (k * 8)).off + 3, none⟩ = some (.slice A3 x.f3.length e3) ∧ w'.cell? ⟨(a.add (k * 8)).block, (a.add (k * 8)).off + 4, none⟩ = some (.int .i64 x.f4) ∧ w'.cell? ⟨(a.add (k * 8)).block, (a.add (k * 8)).off + 5, none⟩ = some (.int .i64 x.f5) ∧ w'.cell? ⟨(a.add (k * 8)).block, (a.add (k * 8)).off + 6, none⟩ = some (.int .i64 x.f6) ∧ w'.cell? ⟨(a.add (k * 8)).block, (a.add (k * 8)).off + 7, none⟩ = some (.slice A7 x.f7.length e7) ∧ w'.cell? (b.add (k * 8)) = some (.int .i64 x.f0) ∧ w'.cell? ⟨(b.add (k * 8)).block, (b.add (k * 8)).off + 1, none⟩ = some (.int .i64 x.f1) ∧ w'.cell? ⟨(b.add (k * 8)).block, (b.add (k * 8)).off + 2, none⟩ = some (.int .i64 x.f2) ∧ w'.cell? ⟨(b.add (k * 8)).block, (b.add (k * 8)).off + 3, none⟩ = some (.slice B3 x.f3.length f3) ∧ w'.cell? ⟨(b.add (k * 8)).block, (b.add (k * 8)).off + 4, none⟩ = some (.int .i64 x.f4) ∧ w'.cell? ⟨(b.add (k * 8)).block, (b.add (k * 8)).off + 5, none⟩ = some (.int .i64 x.f5) ∧ w'.cell? ⟨(b.add (k * 8)).block, (b.add (k * 8)).off + 6, none⟩ = some (.int .i64 x.f6) ∧ w'.cell? ⟨(b.add (k * 8)).block, (b.add (k * 8)).off + 7, none⟩ = some (.slice B7 x.f7.length f7)) (ds := []) #[false, false, false, false, false, false, false, false, false, false, false, false] (by kernel_rfl) rfl rfl ⟨Z0.out, Z1.out, Z2.out, Z3.out, Z4.out, Z5.out, Z6.out, Z7.out, Z8.out, Z9.out, Z10.out, Z11.out, Z12.out, Z13.out, Z14.out, Z15.out, Z16.out, Z17.out⟩ (fun hHeld => ?_)
          refine with_tabW r17_13_tab r17_13_bits (fun HT_ HW_ => ?_)
          generalize World.drew wr = W2 at HBD HTD Z0 Z1 Z2 Z3 Z4 Z5 Z6 Z7 Z8 Z9 Z10 Z11 Z12 Z13 Z14 Z15 Z16 Z17 hHeld ⊢
          refine pure_ (i := 0) (N := some 76) (v := ?_) (a' := ?_) #[true, false, false, false, false, false, false, false, false, false, false, false] rfl rfl (any_of HT_.out (by kernel_rfl)) (fun _ _ _ h => h) (Or.inl ⟨by rfl, ?_⟩) ?_ ?_
          rotate_left
          · intro w'
            go_simp
            with_reducible rfl
          rotate_left
          · simp only [Act.put, List.setIfInBounds_toArray, List.set_cons_zero, List.set_cons_succ, i64_w, i32_w]
            rfl
          refine take_ (i := 1) (N := some 77) (v := ?_) (a' := ?_) #[true, true, false, false, false, false, false, false, false, false, false, false] rfl rfl (take_ofW HT_.out HW_.out (by kernel_rfl)) (fun _ _ _ h => h) (Or.inl ⟨by rfl, ?_⟩) hHeld ?_ ?_
          rotate_left
          · rintro w' ⟨s0, s1, s2, s3, s4, s5, s6, s7, s8, s9, s10, s11, s12, s13, s14, s15, s16, s17⟩
            go_simp
            with_reducible rfl
          rotate_left
          · simp only [Act.put, List.setIfInBounds_toArray, List.set_cons_zero, List.set_cons_succ, i64_w, i32_w]
            rfl
          refine pure_ (i := 2) (N := some 78) (v := ?_) (a' := ?_) #[true, true, true, false, false, false, false, false, false, false, false, false] rfl rfl (any_of HT_.out (by kernel_rfl)) (fun _ _ _ h => h) (Or.inl ⟨by rfl, ?_⟩) ?_ ?_
          rotate_left
          · intro w'
            go_simp
            with_reducible rfl
          rotate_left
          · simp only [Act.put, List.setIfInBounds_toArray, List.set_cons_zero, List.set_cons_succ, i64_w, i32_w]
            rfl
          refine pure_ (i := 3) (N := some 79) (v := ?_) (a' := ?_) #[true, true, true, true, false, false, false, false, false, false, false, false] rfl rfl (any_of HT_.out (by kernel_rfl)) (fun _ _ _ h => h) (Or.inl ⟨by rfl, ?_⟩) ?_ ?_
          rotate_left
          · intro w'
            go_simp
            with_reducible rfl
          rotate_left
          · simp only [Act.put, List.setIfInBounds_toArray, List.set_cons_zero, List.set_cons_succ, i64_w, i32_w]
            rfl
          refine take_ (i := 4) (N := some 80) (v := ?_) (a' := ?_) #[true, true, true, true, true, false, false, false, false, false, false, false] rfl rfl (take_ofW HT_.out HW_.out (by kernel_rfl)) (fun _ _ _ h => h) (Or.inl ⟨by rfl, ?_⟩) hHeld ?_ ?_
          rotate_left
          · rintro w' ⟨s0, s1, s2, s3, s4, s5, s6, s7, s8, s9, s10, s11, s12, s13, s14, s15, s16, s17⟩
            go_simp
            with_reducible rfl
          rotate_left
          · simp only [Act.put, List.setIfInBounds_toArray, List.set_cons_zero, List.set_cons_succ, i64_w, i32_w]
            rfl
          refine pure_ (i := 5) (N := some 81) (v := ?_) (a' := ?_) #[true, true, true, true, true, true, false, false, false, false, false, false] rfl rfl (any_of HT_.out (by kernel_rfl)) (fun _ _ _ h => h) (Or.inl ⟨by rfl, ?_⟩) ?_ ?_
          rotate_left
          · intro w'
            go_simp
            with_reducible rfl
          rotate_left
          · simp only [Act.put, List.setIfInBounds_toArray, List.set_cons_zero, List.set_cons_succ, i64_w, i32_w]
            rfl
          refine take_ (i := 6) (N := some 82) (v := ?_) (a' := ?_) #[true, true, true, true, true, true, true, false, false, false, false, false] rfl rfl (take_ofW HT_.out HW_.out (by kernel_rfl)) (fun _ _ _ h => h) (Or.inl ⟨by rfl, ?_⟩) hHeld ?_ ?_
          rotate_left
          · rintro w' ⟨s0, s1, s2, s3, s4, s5, s6, s7, s8, s9, s10, s11, s12, s13, s14, s15, s16, s17⟩
            go_simp
            with_reducible rfl
          rotate_left
          · simp only [Act.put, List.setIfInBounds_toArray, List.set_cons_zero, List.set_cons_succ, i64_w, i32_w]
            rfl
          refine pure_ (i := 7) (N := some 83) (v := ?_) (a' := ?_) #[true, true, true, true, true, true, true, true, false, false, false, false] rfl rfl (any_of HT_.out (by kernel_rfl)) (fun _ _ _ h => h) (Or.inl ⟨by rfl, ?_⟩) ?_ ?_
          rotate_left
          · intro w'
            go_simp
            with_reducible rfl
          rotate_left
          · simp only [Act.put, List.setIfInBounds_toArray, List.set_cons_zero, List.set_cons_succ, i64_w, i32_w]
            rfl
          refine pure_ (i := 8) (N := some 84) (v := ?_) (a' := ?_) #[true, true, true, true, true, true, true, true, true, false, false, false] rfl rfl (any_of HT_.out (by kernel_rfl)) (fun _ _ _ h => h) (Or.inl ⟨by rfl, ?_⟩) ?_ ?_
          rotate_left
          · intro w'
            go_simp
            with_reducible rfl
          rotate_left
          · simp only [Act.put, List.setIfInBounds_toArray, List.set_cons_zero, List.set_cons_succ, i64_w, i32_w]
            rfl
          refine take_ (i := 9) (N := some 85) (v := ?_) (a' := ?_) #[true, true, true, true, true, true, true, true, true, true, false, false] rfl rfl (take_ofW HT_.out HW_.out (by kernel_rfl)) (fun _ _ _ h => h) (Or.inl ⟨by rfl, ?_⟩) hHeld ?_ ?_
          rotate_left
          · rintro w' ⟨s0, s1, s2, s3, s4, s5, s6, s7, s8, s9, s10, s11, s12, s13, s14, s15, s16, s17⟩
            go_simp
            with_reducible rfl
          rotate_left
          · simp only [Act.put, List.setIfInBounds_toArray, List.set_cons_zero, List.set_cons_succ, i64_w, i32_w]
            rfl
          refine one_ (i := 10) (N := some 86) #[true, true, true, true, true, true, true, true, true, true, true, false] rfl rfl (one_of HT_.out (by kernel_rfl)) (by decide) (fun K hK => ?_)
          refine goes_ Try.func37 (by kernel_rfl) rfl #[v47 x A3 e3 A7 e7, v47 x B3 f3 B7 f7] (by rfl) rfl rfl (by (try simp only [List.map_toArray, List.map_cons, List.map_nil]); first | done | rfl) ?_
          refine (ins37_calls x A3 B3 A7 B7 e3 f3 e7 f7 W2 (HR0.out.below HTD.out) (HR1.out.below HTD.out)).mono ?_
          rintro e w6 ⟨rfl, hb6⟩
          refine ⟨_, rfl, ?_⟩
          have HB6 := Aside0.mk (below_step HBD.out hb6)
          refine hK.out _ _ ⟨pw_cell_below hb6 Z0.out, pw_cell_below hb6 Z1.out, pw_cell_below hb6 Z2.out, pw_cell_below hb6 Z3.out, pw_cell_below hb6 Z4.out, pw_cell_below hb6 Z5.out, pw_cell_below hb6 Z6.out, pw_cell_below hb6 Z7.out, pw_cell_below hb6 Z8.out, pw_cell_below hb6 Z9.out, pw_cell_below hb6 Z10.out, pw_cell_below hb6 Z11.out, pw_cell_below hb6 Z12.out, pw_cell_below hb6 Z13.out, pw_cell_below hb6 Z14.out, pw_cell_below hb6 Z15.out, pw_cell_below hb6 Z16.out, pw_cell_below hb6 Z17.out⟩ (fun hHeld => ?_)
          clear hK K
          refine norm_ (a' := ?_) ?_ ?_
          rotate_left
          · show Act.put _ (some 86) _ = _
            simp only [Act.put, List.setIfInBounds_toArray, List.set_cons_zero, List.set_cons_succ, i64_w, i32_w]
            rfl
          clear hb6
          refine pure_ (i := 11) (N := some 87) (v := ?_) (a' := ?_) #[true, true, true, true, true, true, true, true, true, true, true, true] rfl rfl (any_of HT_.out (by kernel_rfl)) (fun _ _ _ h => h) (Or.inl ⟨by rfl, ?_⟩) ?_ ?_
          rotate_left
          · intro w'
            go_simp
            with_reducible rfl
          rotate_left
          · simp only [Act.put, List.setIfInBounds_toArray, List.set_cons_zero, List.set_cons_succ, i64_w, i32_w]
            rfl
          refine done_ (done_of HT_.out (by kernel_rfl)) ?_
          go_wp2_with fail
          go_roundw
          case rel => exact ⟨k + 1, by have := HKT.out; omega, by go_num, HB6⟩
          case measure => have := HKT.out; simp [intOf]; omega
        · obtain rfl : k = X.f1.length := by omega
          go_wp2_with fail
          go_roundw
          case rel => exact ⟨i + 1, by have := HLT.out; omega, by go_num, ⟨below_step HB8.out HBk.out⟩⟩
          case measure => have := HLT.out; simp [intOf]; omega
    · obtain rfl : i = bs.length := by omega
      go_wp2_with fail
      go_ret
      exact ⟨rfl, below_step HB2.out HB.out⟩
end Go.Proofs.Ytklknkfoafdgpaa.LiveEqR
