/- ProfileDecode, for all bytes: the answer is the reference's, twice, and over what is written into the bytes anew; the bytes are as they were; what was decoded may be written over. No condition. -/
import Derived.Test.YtjeaojolhdfpeaaDecAids
namespace Go.Proofs.Ytjeaojolhdfpeaa.DecLaw
open Go.RowKit Go.Proofs.YtjeaojolhdfpeaaW.PrintWords Go.Proofs.YtjeaojolhdfpeaaW.PrintLast Go.Proofs.YtjeaojolhdfpeaaW.PrintMore
open Go.Proofs.Ytjeaojolhdfpeaa.PProfileDecode Go.Proofs.Ytjeaojolhdfpeaa.Decode Go.Proofs.Ytjeaojolhdfpeaa.Reader
set_option linter.unusedVariables false
set_option linter.unusedSimpArgs false

/-- What the law holds. -/
structure Lw (w : World) (vw vf vg : Value) (D2 : List (List S28)) (Al : Option Addr) (cl : Nat) (ms : List Int) (g5 g9 g11 N M : Nat) (W : World) : Prop where
  b5 : W.heap[g5]? = some (.cells #[vw] 24 (0, 0))
  b9 : W.heap[g9]? = some (.cells #[vf] 24 (0, 0))
  b11 : W.heap[g11]? = some (.cells #[vg] 24 (0, 0))
  rw_ : Kd.R kr 77 W w.heap.size (fun k => k < N) vw D2
  rl : Kd.R (Kd.int .u8) 5 W w.heap.size (fun _ => True) (.slice Al ms.length cl) ms
  rf : Kd.R kr 77 W w.heap.size (fun k => k < N) vf D2
  rg : Kd.R kr 77 W w.heap.size (fun k => N ≤ k ∧ k < M) vg D2
  below : Below w.heap.size w W
  lt : g5 < N ∧ g9 < N ∧ w.heap.size ≤ N
namespace Lw
variable {w W W1 : World} {vw vf vg : Value} {D2 : List (List S28)} {Al : Option Addr} {cl : Nat} {ms ms1 : List Int} {g5 g9 g11 N M gl : Nat}
theorem step (h : Lw w vw vf vg D2 Al cl ms g5 g9 g11 N M W) (hb : Below W.heap.size W W1) : Lw w vw vf vg D2 Al cl ms g5 g9 g11 N M W1 :=
  ⟨blk_below h.b5 hb, blk_below h.b9 hb, blk_below h.b11 hb, Kd.R_below h.rw_ hb, Kd.R_below h.rl hb, Kd.R_below h.rf hb, Kd.R_below h.rg hb, below_step h.below hb, h.lt⟩
theorem typed (h : Lw w vw vf vg D2 (some ⟨gl, 0, none⟩) cl ms g5 g9 g11 N M W) : ∃ cells, W.heap[gl]? = some (.cells cells 5 (0, 0)) := Kd.R_typed h.rl gl rfl
/-- A byte is written. -/
theorem put {k : Nat} {x : Int} (h : Lw w vw vf vg D2 (some ⟨gl, 0, none⟩) cl ms g5 g9 g11 N M W) : Lw w vw vf vg D2 (some ⟨gl, 0, none⟩) cl (ms.set k x) g5 g9 g11 N M (W.setCell ⟨gl, k, none⟩ (.int .u8 x)) := by
  obtain ⟨h1, hg⟩ := Kd.R_putg h.rl (k : Int) x
  simp only [Int.toNat_natCast] at h1 hg
  obtain ⟨cells, hc⟩ := h.typed
  have hty : ∀ j, (Value.slice (some ⟨gl, 0, none⟩) ms.length cl).ownBlock = some j → ∃ cells, W.heap[j]? = some (.cells cells 5 (0, 0)) := Kd.R_typed h.rl
  have hE : ∀ q, q ∈ 77 :: kr.E → q ≠ 5 := by decide
  exact ⟨blk_far h.b5 (p := ⟨gl, k, none⟩) (blk_ne h.b5 hc (by decide)) _, blk_far h.b9 (p := ⟨gl, k, none⟩) (blk_ne h.b9 hc (by decide)) _, blk_far h.b11 (p := ⟨gl, k, none⟩) (blk_ne h.b11 hc (by decide)) _,
    Kd.R_over' h.rw_ hty hE hg, by rw [List.length_set]; exact h1, Kd.R_over' h.rf hty hE hg, Kd.R_over' h.rg hty hE hg, below_set h.below (Kd.R_base h.rl gl rfl), h.lt⟩
end Lw

set_option maxHeartbeats 16000000 in
set_option maxRecDepth 100000 in
theorem law (A A2 : Option Addr) (c c2 : Nat) (bs os : List Int) (w : World) (hr : Kd.C (Kd.int .u8) w A bs.length bs) (hc : bs.length ≤ c) (hl : bs.length ≤ 140737488351232) (hb : Bytes bs)
    (hr2 : Kd.C (Kd.int .u8) w A2 os.length os) (hc2 : os.length ≤ c2) (hl2 : os.length ≤ 140737488351232) (hb2 : Bytes os) :
    Calls Try.prog 5 #[.slice A bs.length c, .slice A2 os.length c2] w fun e w' => e = .returned (.bool true) ∧ Below w.heap.size w w' := by
  obtain ⟨D, hD⟩ : ∃ D, D = dec bs := ⟨_, rfl⟩
  have HD := Aside0.mk hD.symm
  clear hD
  obtain ⟨kl, hkl⟩ := LentBD.lent_f bs hl
  obtain ⟨kk, hkk⟩ := LentBD.kept_f bs hl
  obtain ⟨ms, hms⟩ : ∃ ms, ms = bs ++ LentBD.mks 64 := ⟨_, rfl⟩
  have hml : ms.length = bs.length + 64 := by rw [hms, List.length_append, LentBD.mks_length]
  have hmt : ms.take bs.length = bs := by rw [hms, List.take_left]
  have HMB : Aside0 (Bytes ms) := ⟨fun x hx => by
    rw [hms, List.mem_append] at hx
    rcases hx with hx | hx
    · exact hb x hx
    · obtain ⟨j, _, rfl⟩ := List.mem_map.1 hx
      unfold LentBD.mk
      omega⟩
  have HML := Aside0.mk hml
  have HMT := Aside0.mk hmt
  rw [← hms] at hkl hkk
  clear hms hml hmt
  have HKL := Aside0.mk hkl
  have HKK := Aside0.mk hkk
  have HR := Aside0.mk hr
  have HR2 := Aside0.mk hr2
  have HBy := Aside0.mk hb
  have HBo := Aside0.mk hb2
  clear hr hr2 hkl hkk hb hb2
  go_enter Try.func5, Try.ntmps5
  go_wp2_with fail
  -- the reference's answer
  refine (RefDecode.decode A c bs w HR.out hc (by omega) HBy.out).mono ?_
  rintro e w1 ⟨vw, rfl, ho, hb⟩
  rw [HD.out] at ho ⊢
  obtain ⟨Aw, cw, rfl⟩ := Kd.R_slice ho
  have HW := Aside0.mk ho
  have HB := Aside0.mk hb
  clear ho hb
  go_wp2_with fail
  have B5 : Aside0 ((w1.alloc (.cells #[.slice Aw D.2.length cw] 24)).heap[w1.heap.size]? = some (.cells #[.slice Aw D.2.length cw] 24 (0, 0))) := ⟨blk_new _ _⟩
  replace HW := Aside0.mk (Kd.R_alloc HW.out (.cells #[.slice Aw D.2.length cw] 24))
  replace HB := Aside0.mk (below_alloc HB.out (.cells #[.slice Aw D.2.length cw] 24))
  generalize w1.alloc (.cells #[.slice Aw D.2.length cw] 24) = W1 at B5 HW HB ⊢
  generalize w1.heap.size = g5 at B5 ⊢
  -- lent
  refine (portagekit_Lent.calls kl A c bs _ W1 (Kd.C_below HR.out HB.out) hc HKL.out).mono ?_
  rintro e w2 ⟨vl, rfl, ho, hb⟩
  obtain ⟨Al, cl, rfl⟩ := Kd.R_slice ho
  have HL := Aside0.mk (Kd.R_lower ho HB.out.size)
  replace HW := Aside0.mk (Kd.R_below HW.out hb)
  replace B5 := Aside0.mk (blk_below B5.out hb)
  replace HB := Aside0.mk (below_step HB.out hb)
  clear ho hb
  have hcl : bs.length ≤ cl := by have := (Kd.R_reads' HL.out).2.1; have := HML.out; omega
  have hcm : bs.length ≤ ms.length := by have := HML.out; omega
  go_wp2_with fail
  -- the first answer
  have HC1 : Aside0 (Kd.C (Kd.int .u8) w2 Al bs.length bs) := ⟨by have := Kd.C_take (m := bs.length) (Kd.R_reads' HL.out).2.2 hcm; rwa [HMT.out] at this⟩
  refine (Decode.decode Al cl bs w2 HC1.out (by omega) HBy.out).mono ?_
  rintro e w3 ⟨vf, rfl, ho, hb⟩
  rw [HD.out] at ho ⊢
  obtain ⟨Af, cf, rfl⟩ := Kd.R_slice ho
  have HF := Aside0.mk (Kd.R_lower ho HB.out.size)
  replace HW := Aside0.mk (Kd.R_below HW.out hb)
  replace HL := Aside0.mk (Kd.R_below HL.out hb)
  replace B5 := Aside0.mk (blk_below B5.out hb)
  replace HB := Aside0.mk (below_step HB.out hb)
  clear ho hb HC1
  go_wp2_with fail
  have B9 : Aside0 ((w3.alloc (.cells #[.slice Af D.2.length cf] 24)).heap[w3.heap.size]? = some (.cells #[.slice Af D.2.length cf] 24 (0, 0))) := ⟨blk_new _ _⟩
  replace B5 := Aside0.mk (blk_alloc B5.out (.cells #[.slice Af D.2.length cf] 24))
  replace HW := Aside0.mk (Kd.R_alloc HW.out (.cells #[.slice Af D.2.length cf] 24))
  replace HF := Aside0.mk (Kd.R_alloc HF.out (.cells #[.slice Af D.2.length cf] 24))
  replace HL := Aside0.mk (Kd.R_alloc HL.out (.cells #[.slice Af D.2.length cf] 24))
  replace HB := Aside0.mk (below_alloc HB.out (.cells #[.slice Af D.2.length cf] 24))
  generalize w3.alloc (.cells #[.slice Af D.2.length cf] 24) = W3 at B5 B9 HW HF HL HB ⊢
  generalize w3.heap.size = g9 at B9 ⊢
  -- the second
  have HC1 : Aside0 (Kd.C (Kd.int .u8) W3 Al bs.length bs) := ⟨by have := Kd.C_take (m := bs.length) (Kd.R_reads' HL.out).2.2 hcm; rwa [HMT.out] at this⟩
  refine (Decode.decode Al cl bs W3 HC1.out (by omega) HBy.out).mono ?_
  rintro e w4 ⟨vg, rfl, ho, hb⟩
  rw [HD.out] at ho ⊢
  obtain ⟨Ag, cg, rfl⟩ := Kd.R_slice ho
  have HLw : Aside0 (Lw w (.slice Aw D.2.length cw) (.slice Af D.2.length cf) (.slice Ag D.2.length cg) D.2 Al cl ms g5 g9 w4.heap.size W3.heap.size w4.heap.size (w4.alloc (.cells #[.slice Ag D.2.length cg] 24))) :=
    ⟨⟨blk_alloc (blk_below B5.out hb) _, blk_alloc (blk_below B9.out hb) _, blk_new _ _, Kd.R_alloc (Kd.R_below (Kd.R_mono (Kd.R_bound HW.out) (fun k hk => hk.2.2.1)) hb) _, Kd.R_alloc (Kd.R_below HL.out hb) _,
      Kd.R_alloc (Kd.R_below (Kd.R_mono (Kd.R_bound HF.out) (fun k hk => hk.2.2.1)) hb) _, Kd.R_alloc (Kd.R_mono (Kd.R_bound (Kd.R_lower ho HB.out.size)) (fun k hk => ⟨hk.1, hk.2.2.1⟩)) _, below_alloc (below_step HB.out hb) _, blk_lt B5.out, blk_lt B9.out, HB.out.size⟩⟩
  clear ho hb HC1 B5 B9 HW HF HL HB
  go_wp2_with fail
  generalize w4.alloc (.cells #[.slice Ag D.2.length cg] 24) = W4 at HLw ⊢
  generalize w4.heap.size = g11 at HLw ⊢
  generalize W3.heap.size = N at HLw
  obtain ⟨ks, hks⟩ := SameD.same_read (Kd.R_reads' HLw.out.rw_).2.2
  have HKS := Aside0.mk hks
  clear hks
  refine (portagekit_Num.calls D.1 D.1 _ rfl).mono ?_
  rintro e w5 ⟨rfl, hb⟩
  replace HLw := Aside0.mk (HLw.out.step hb.below)
  clear hb
  go_wp2_with fail
  refine (portagekit_Num.calls D.1 D.1 _ rfl).mono ?_
  rintro e w6 ⟨rfl, hb⟩
  replace HLw := Aside0.mk (HLw.out.step hb.below)
  clear hb
  have hc5 : w6.cell? ⟨g5, 0, none⟩ = some (.slice Aw D.2.length cw) := (blk_cell HLw.out.b5 0).trans rfl
  have hc9 : w6.cell? ⟨g9, 0, none⟩ = some (.slice Af D.2.length cf) := (blk_cell HLw.out.b9 0).trans rfl
  go_wp2_with fail
  clear hc5 hc9
  refine (portageref0_SameProfile.calls ks Af cf D.2 Aw cw D.2 true _ (Kd.R_reads' HLw.out.rf).2.2 (Kd.R_reads' HLw.out.rf).2.1 (Kd.R_reads' HLw.out.rw_).2.2 (Kd.R_reads' HLw.out.rw_).2.1 HKS.out).mono ?_
  rintro e w7 ⟨rfl, hb⟩
  replace HLw := Aside0.mk (HLw.out.step hb)
  clear hb
  have hc5 : w7.cell? ⟨g5, 0, none⟩ = some (.slice Aw D.2.length cw) := (blk_cell HLw.out.b5 0).trans rfl
  have hc11 : w7.cell? ⟨g11, 0, none⟩ = some (.slice Ag D.2.length cg) := (blk_cell HLw.out.b11 0).trans rfl
  go_wp2_with fail
  clear hc5 hc11
  refine (portageref0_SameProfile.calls ks Ag cg D.2 Aw cw D.2 true _ (Kd.R_reads' HLw.out.rg).2.2 (Kd.R_reads' HLw.out.rg).2.1 (Kd.R_reads' HLw.out.rw_).2.2 (Kd.R_reads' HLw.out.rw_).2.1 HKS.out).mono ?_
  rintro e w8 ⟨rfl, hb⟩
  replace HLw := Aside0.mk (HLw.out.step hb)
  clear hb
  go_wp2_with fail
  refine (portagekit_Kept.calls kk Al cl ms A c bs true _ (Kd.R_reads' HLw.out.rl).2.2 (Kd.R_reads' HLw.out.rl).2.1 (Kd.C_below HR.out HLw.out.below) hc HKK.out).mono ?_
  rintro e w9 ⟨rfl, hb⟩
  replace HLw := Aside0.mk (HLw.out.step hb.below)
  clear hb
  go_wp2_with fail
  obtain ⟨gl, cap, heq, _⟩ := Kd.R_form HLw.out.rl (by have := HML.out; omega)
  injection heq with heq hq1 hq2
  subst heq
  clear hq1 hq2
  go_loopw [13] (fun i wr => ∃ (k : Nat) (ms1 : List Int), k ≤ bs.length ∧ bs.length ≤ ms1.length ∧ Aside0 (Bytes ms1) ∧ i = .int .i64 k ∧ Aside0 (Lw w (.slice Aw D.2.length cw) (.slice Af D.2.length cf) (.slice Ag D.2.length cg) D.2 (some ⟨gl, 0, none⟩) cl ms1 g5 g9 g11 N g11 wr)) (fun i _ => bs.length - (intOf i).toNat)
  case atStart => exact ⟨0, ms, by omega, hcm, HMB, rfl, HLw⟩
  case round =>
    clear HLw HMB HMT HKK HKL HML hcm
    obtain ⟨k, ms1, hk, hcm, HMB, rfl, HLw⟩ := hrel
    by_cases hgo : k < bs.length ∧ k < os.length
    · obtain ⟨h1, h2⟩ := hgo
      obtain ⟨ad, rfl, hx0⟩ := Kd.at_int HR2.out (k : Int) (by omega) (by omega)
      have hx := pw_cell_below HLw.out.below hx0
      simp only [Int.toNat_natCast] at hx
      clear hx0
      have hbx := bytes_rd HBo.out k
      obtain ⟨x, hxe⟩ : ∃ x, x = rd os (k : Int) := ⟨_, rfl⟩
      rw [← hxe] at hx hbx
      clear hxe
      obtain ⟨cells, hcl2⟩ := HLw.out.typed
      have hfz := blk_frozen hcl2 k
      have hci := (Kd.R_celln 0 HLw.out.rl (k : Int) (by omega) (by omega)).1
      simp only [Int.toNat_natCast] at hci
      have HL2 := Aside0.mk (HLw.out.put (k := k) (x := x))
      have HB2 : Aside0 (Bytes (ms1.set k x)) := ⟨fun y hy => by
        rcases List.mem_or_eq_of_mem_set hy with h | h
        · exact HMB.out y h
        · rw [h]; exact hbx⟩
      clear hcl2
      go_wp2_with fail
      go_roundw
      case rel => exact ⟨k + 1, ms1.set k x, by omega, by rw [List.length_set]; omega, HB2, by go_num, HL2⟩
      case measure => simp [intOf]; omega
    · have HGo := Aside0.mk hgo
      clear hgo
      obtain ⟨xs, hxs⟩ : ∃ xs, xs = ms1.take bs.length := ⟨_, rfl⟩
      have hxl : xs.length = bs.length := by rw [hxs, List.length_take]; omega
      have HXC : Aside0 (∀ W, Lw w (.slice Aw D.2.length cw) (.slice Af D.2.length cf) (.slice Ag D.2.length cg) D.2 (some ⟨gl, 0, none⟩) cl ms1 g5 g9 g11 N g11 W → Kd.C (Kd.int .u8) W (some ⟨gl, 0, none⟩) xs.length xs) := ⟨fun W h => by
        have := Kd.C_take (m := bs.length) (Kd.R_reads' h.rl).2.2 hcm
        rwa [← hxs] at this⟩
      have HXB : Aside0 (Bytes xs) := ⟨fun y hy => HMB.out y (by rw [hxs] at hy; exact List.mem_of_mem_take hy)⟩
      have HXL := Aside0.mk hxl
      clear hxs hxl HMB hcm
      obtain ⟨kc, hkc⟩ := RefReader.copy_bytes xs (by have := HXL.out; omega)
      have HCopy : Aside0 (Calls Try.prog 25 #[.slice (some ⟨gl, 0, none⟩) bs.length cl] wr fun e w' => ∃ v0_ : Value, e = .returned (v0_) ∧ Kd.R (Kd.int .u8) 5 w' wr.heap.size (fun _ => True) v0_ xs ∧ Below wr.heap.size wr w') := ⟨by
        have := portageref0_CopyBytes.calls kc (some ⟨gl, 0, none⟩) cl xs xs wr (HXC.out _ HLw.out) (by rw [HXL.out]; exact hcl) hkc
        rwa [HXL.out] at this⟩
      clear hkc
      rcases Nat.lt_or_ge k bs.length with hkn | hkn
      · have hko : ¬ k < os.length := fun h => HGo.out ⟨hkn, h⟩
        go_wp2_with fail
        refine HCopy.out.mono ?_
        rintro e w10 ⟨vx, rfl, ho, hb⟩
        obtain ⟨Ax, cx, rfl⟩ := Kd.R_slice ho
        have HX := Aside0.mk (Kd.R_reads' ho)
        replace HLw := Aside0.mk (HLw.out.step hb)
        clear ho hb
        go_wp2_with fail
        -- the reference's answer over these bytes
        obtain ⟨D1, hD1⟩ : ∃ D1, D1 = dec xs := ⟨_, rfl⟩
        have HD1 := Aside0.mk hD1.symm
        clear hD1
        refine (RefDecode.decode Ax cx xs w10 HX.out.2.2 HX.out.2.1 (by have := HXL.out; omega) HXB.out).mono ?_
        rintro e w11 ⟨vn, rfl, ho, hb⟩
        rw [HD1.out] at ho ⊢
        obtain ⟨An, cn, rfl⟩ := Kd.R_slice ho
        have HN := Aside0.mk (Kd.R_alloc ho (.cells #[.slice An D1.2.length cn] 24))
        replace HLw := Aside0.mk ((HLw.out.step hb).step (below_alloc (Below.refl _ _) (.cells #[.slice An D1.2.length cn] 24)))
        have B14 : Aside0 ((w11.alloc (.cells #[.slice An D1.2.length cn] 24)).heap[w11.heap.size]? = some (.cells #[.slice An D1.2.length cn] 24 (0, 0))) := ⟨blk_new _ _⟩
        clear ho hb HX
        go_wp2_with fail
        generalize w11.alloc (.cells #[.slice An D1.2.length cn] 24) = W11 at HN HLw B14 ⊢
        generalize w11.heap.size = g14 at B14 ⊢
        -- the program's
        have HDec : Aside0 (Calls Try.prog 22 #[.slice (some ⟨gl, 0, none⟩) bs.length cl] W11 (Decoded W11 (dec xs))) := ⟨by
          have := Decode.decode (some ⟨gl, 0, none⟩) cl xs W11 (HXC.out _ HLw.out) (by have := HXL.out; omega) HXB.out
          rwa [HXL.out] at this⟩
        refine HDec.out.mono ?_
        rintro e w12 ⟨vh, rfl, ho, hb⟩
        rw [HD1.out] at ho ⊢
        obtain ⟨Ah, ch, rfl⟩ := Kd.R_slice ho
        have HH := Aside0.mk (Kd.R_alloc ho (.cells #[.slice Ah D1.2.length ch] 24))
        replace HN := Aside0.mk (Kd.R_alloc (Kd.R_below HN.out hb) (.cells #[.slice Ah D1.2.length ch] 24))
        replace B14 := Aside0.mk (blk_alloc (blk_below B14.out hb) (.cells #[.slice Ah D1.2.length ch] 24))
        replace HLw := Aside0.mk ((HLw.out.step hb).step (below_alloc (Below.refl _ _) (.cells #[.slice Ah D1.2.length ch] 24)))
        have B16 : Aside0 ((w12.alloc (.cells #[.slice Ah D1.2.length ch] 24)).heap[w12.heap.size]? = some (.cells #[.slice Ah D1.2.length ch] 24 (0, 0))) := ⟨blk_new _ _⟩
        clear ho hb HDec HCopy HXC
        go_wp2_with fail
        generalize w12.alloc (.cells #[.slice Ah D1.2.length ch] 24) = W12 at HN HH HLw B14 B16 ⊢
        generalize w12.heap.size = g16 at B16 ⊢
        obtain ⟨kn, hkn1⟩ := SameD.same_read (Kd.R_reads' HN.out).2.2
        have HKN := Aside0.mk hkn1
        clear hkn1
        refine (portagekit_Num.calls D1.1 D1.1 _ rfl).mono ?_
        rintro e w13 ⟨rfl, hb⟩
        replace HLw := Aside0.mk (HLw.out.step hb.below)
        replace HN := Aside0.mk (Kd.R_below HN.out hb.below)
        replace HH := Aside0.mk (Kd.R_below HH.out hb.below)
        replace B14 := Aside0.mk (blk_below B14.out hb.below)
        replace B16 := Aside0.mk (blk_below B16.out hb.below)
        clear hb
        have hc14 : w13.cell? ⟨g14, 0, none⟩ = some (.slice An D1.2.length cn) := (blk_cell B14.out 0).trans rfl
        have hc16 : w13.cell? ⟨g16, 0, none⟩ = some (.slice Ah D1.2.length ch) := (blk_cell B16.out 0).trans rfl
        go_wp2_with fail
        clear hc14 hc16
        refine (portageref0_SameProfile.calls kn Ah ch D1.2 An cn D1.2 true _ (Kd.R_reads' HH.out).2.2 (Kd.R_reads' HH.out).2.1 (Kd.R_reads' HN.out).2.2 (Kd.R_reads' HN.out).2.1 HKN.out).mono ?_
        rintro e w14 ⟨rfl, hb⟩
        replace HLw := Aside0.mk (HLw.out.step hb)
        clear hb HN HH B14 B16
        have hc11 : w14.cell? ⟨g11, 0, none⟩ = some (.slice Ag D.2.length cg) := (blk_cell HLw.out.b11 0).trans rfl
        go_wp2_with fail
        clear hc11
        -- what was decoded is written over
        refine (DecParts.scribble_any (w0 := w) (S := fun k => N ≤ k ∧ k < g11) HLw.out.rg (fun _ h => h) (fun k h => Nat.le_trans HLw.out.lt.2.2 h.1) HLw.out.below).mono ?_
        rintro e w15 ⟨rfl, hb, hkp⟩
        have HBe := Aside0.mk hb
        have hc5 : w15.cell? ⟨g5, 0, none⟩ = some (.slice Aw D.2.length cw) := (blk_cell (blk_kept HLw.out.b5 hkp (fun h => by have := HLw.out.lt.1; omega)) 0).trans rfl
        have hc9 : w15.cell? ⟨g9, 0, none⟩ = some (.slice Af D.2.length cf) := (blk_cell (blk_kept HLw.out.b9 hkp (fun h => by have := HLw.out.lt.2.1; omega)) 0).trans rfl
        have HW := Aside0.mk (Kd.R_kept HLw.out.rw_ hkp (fun k hk h => by omega))
        have HF := Aside0.mk (Kd.R_kept HLw.out.rf hkp (fun k hk h => by omega))
        clear hb hkp HLw
        go_wp2_with fail
        clear hc5 hc9
        refine (portageref0_SameProfile.calls ks Af cf D.2 Aw cw D.2 true _ (Kd.R_reads' HF.out).2.2 (Kd.R_reads' HF.out).2.1 (Kd.R_reads' HW.out).2.2 (Kd.R_reads' HW.out).2.1 HKS.out).mono ?_
        rintro e w16 ⟨rfl, hb⟩
        replace HBe := Aside0.mk (below_step HBe.out hb)
        clear hb
        go_wp2_with fail
        go_ret
        exact ⟨rfl, HBe.out⟩
      · have hkn2 : ¬ k < bs.length := by omega
        go_wp2_with fail
        refine HCopy.out.mono ?_
        rintro e w10 ⟨vx, rfl, ho, hb⟩
        obtain ⟨Ax, cx, rfl⟩ := Kd.R_slice ho
        have HX := Aside0.mk (Kd.R_reads' ho)
        replace HLw := Aside0.mk (HLw.out.step hb)
        clear ho hb
        go_wp2_with fail
        -- the reference's answer over these bytes
        obtain ⟨D1, hD1⟩ : ∃ D1, D1 = dec xs := ⟨_, rfl⟩
        have HD1 := Aside0.mk hD1.symm
        clear hD1
        refine (RefDecode.decode Ax cx xs w10 HX.out.2.2 HX.out.2.1 (by have := HXL.out; omega) HXB.out).mono ?_
        rintro e w11 ⟨vn, rfl, ho, hb⟩
        rw [HD1.out] at ho ⊢
        obtain ⟨An, cn, rfl⟩ := Kd.R_slice ho
        have HN := Aside0.mk (Kd.R_alloc ho (.cells #[.slice An D1.2.length cn] 24))
        replace HLw := Aside0.mk ((HLw.out.step hb).step (below_alloc (Below.refl _ _) (.cells #[.slice An D1.2.length cn] 24)))
        have B14 : Aside0 ((w11.alloc (.cells #[.slice An D1.2.length cn] 24)).heap[w11.heap.size]? = some (.cells #[.slice An D1.2.length cn] 24 (0, 0))) := ⟨blk_new _ _⟩
        clear ho hb HX
        go_wp2_with fail
        generalize w11.alloc (.cells #[.slice An D1.2.length cn] 24) = W11 at HN HLw B14 ⊢
        generalize w11.heap.size = g14 at B14 ⊢
        -- the program's
        have HDec : Aside0 (Calls Try.prog 22 #[.slice (some ⟨gl, 0, none⟩) bs.length cl] W11 (Decoded W11 (dec xs))) := ⟨by
          have := Decode.decode (some ⟨gl, 0, none⟩) cl xs W11 (HXC.out _ HLw.out) (by have := HXL.out; omega) HXB.out
          rwa [HXL.out] at this⟩
        refine HDec.out.mono ?_
        rintro e w12 ⟨vh, rfl, ho, hb⟩
        rw [HD1.out] at ho ⊢
        obtain ⟨Ah, ch, rfl⟩ := Kd.R_slice ho
        have HH := Aside0.mk (Kd.R_alloc ho (.cells #[.slice Ah D1.2.length ch] 24))
        replace HN := Aside0.mk (Kd.R_alloc (Kd.R_below HN.out hb) (.cells #[.slice Ah D1.2.length ch] 24))
        replace B14 := Aside0.mk (blk_alloc (blk_below B14.out hb) (.cells #[.slice Ah D1.2.length ch] 24))
        replace HLw := Aside0.mk ((HLw.out.step hb).step (below_alloc (Below.refl _ _) (.cells #[.slice Ah D1.2.length ch] 24)))
        have B16 : Aside0 ((w12.alloc (.cells #[.slice Ah D1.2.length ch] 24)).heap[w12.heap.size]? = some (.cells #[.slice Ah D1.2.length ch] 24 (0, 0))) := ⟨blk_new _ _⟩
        clear ho hb HDec HCopy HXC
        go_wp2_with fail
        generalize w12.alloc (.cells #[.slice Ah D1.2.length ch] 24) = W12 at HN HH HLw B14 B16 ⊢
        generalize w12.heap.size = g16 at B16 ⊢
        obtain ⟨kn, hkn1⟩ := SameD.same_read (Kd.R_reads' HN.out).2.2
        have HKN := Aside0.mk hkn1
        clear hkn1
        refine (portagekit_Num.calls D1.1 D1.1 _ rfl).mono ?_
        rintro e w13 ⟨rfl, hb⟩
        replace HLw := Aside0.mk (HLw.out.step hb.below)
        replace HN := Aside0.mk (Kd.R_below HN.out hb.below)
        replace HH := Aside0.mk (Kd.R_below HH.out hb.below)
        replace B14 := Aside0.mk (blk_below B14.out hb.below)
        replace B16 := Aside0.mk (blk_below B16.out hb.below)
        clear hb
        have hc14 : w13.cell? ⟨g14, 0, none⟩ = some (.slice An D1.2.length cn) := (blk_cell B14.out 0).trans rfl
        have hc16 : w13.cell? ⟨g16, 0, none⟩ = some (.slice Ah D1.2.length ch) := (blk_cell B16.out 0).trans rfl
        go_wp2_with fail
        clear hc14 hc16
        refine (portageref0_SameProfile.calls kn Ah ch D1.2 An cn D1.2 true _ (Kd.R_reads' HH.out).2.2 (Kd.R_reads' HH.out).2.1 (Kd.R_reads' HN.out).2.2 (Kd.R_reads' HN.out).2.1 HKN.out).mono ?_
        rintro e w14 ⟨rfl, hb⟩
        replace HLw := Aside0.mk (HLw.out.step hb)
        clear hb HN HH B14 B16
        have hc11 : w14.cell? ⟨g11, 0, none⟩ = some (.slice Ag D.2.length cg) := (blk_cell HLw.out.b11 0).trans rfl
        go_wp2_with fail
        clear hc11
        -- what was decoded is written over
        refine (DecParts.scribble_any (w0 := w) (S := fun k => N ≤ k ∧ k < g11) HLw.out.rg (fun _ h => h) (fun k h => Nat.le_trans HLw.out.lt.2.2 h.1) HLw.out.below).mono ?_
        rintro e w15 ⟨rfl, hb, hkp⟩
        have HBe := Aside0.mk hb
        have hc5 : w15.cell? ⟨g5, 0, none⟩ = some (.slice Aw D.2.length cw) := (blk_cell (blk_kept HLw.out.b5 hkp (fun h => by have := HLw.out.lt.1; omega)) 0).trans rfl
        have hc9 : w15.cell? ⟨g9, 0, none⟩ = some (.slice Af D.2.length cf) := (blk_cell (blk_kept HLw.out.b9 hkp (fun h => by have := HLw.out.lt.2.1; omega)) 0).trans rfl
        have HW := Aside0.mk (Kd.R_kept HLw.out.rw_ hkp (fun k hk h => by omega))
        have HF := Aside0.mk (Kd.R_kept HLw.out.rf hkp (fun k hk h => by omega))
        clear hb hkp HLw
        go_wp2_with fail
        clear hc5 hc9
        refine (portageref0_SameProfile.calls ks Af cf D.2 Aw cw D.2 true _ (Kd.R_reads' HF.out).2.2 (Kd.R_reads' HF.out).2.1 (Kd.R_reads' HW.out).2.2 (Kd.R_reads' HW.out).2.1 HKS.out).mono ?_
        rintro e w16 ⟨rfl, hb⟩
        replace HBe := Aside0.mk (below_step HBe.out hb)
        clear hb
        go_wp2_with fail
        go_ret
        exact ⟨rfl, HBe.out⟩
end Go.Proofs.Ytjeaojolhdfpeaa.DecLaw
