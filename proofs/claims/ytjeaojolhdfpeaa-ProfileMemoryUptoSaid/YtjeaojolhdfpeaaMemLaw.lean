/- ProfileMemory, walked: function 9. -/
import Derived.Test.YtjeaojolhdfpeaaMergeW
import Derived.Test.YtjeaojolhdfpeaaMergeR
import Derived.Test.YtjeaojolhdfpeaaCopyR
import Derived.Test.YtjeaojolhdfpeaaNewR
import Derived.Test.YtjeaojolhdfpeaaSameM
import Derived.Test.YtjeaojolhdfpeaaMemFam
import Derived.Test.YtjeaojolhdfpeaaMemPure
namespace Go.Proofs.Ytjeaojolhdfpeaa.MemLaw
open Go.RowKit Go.Maps Go.Proofs.YtjeaojolhdfpeaaW.PrintWords Go.Proofs.YtjeaojolhdfpeaaW.PrintLast Go.Proofs.YtjeaojolhdfpeaaW.PrintMore
open Go.Proofs.Ytjeaojolhdfpeaa.PProfileMemory Go.Proofs.Ytjeaojolhdfpeaa.BookB Go.Proofs.Ytjeaojolhdfpeaa.BookN Go.Proofs.Ytjeaojolhdfpeaa.BookP Go.Proofs.Ytjeaojolhdfpeaa.MergeP Go.Proofs.Ytjeaojolhdfpeaa.MergeW Go.Proofs.Ytjeaojolhdfpeaa.MemFam Go.Proofs.Ytjeaojolhdfpeaa.MemPure
open Go.Proofs.Ytjeaojolhdfpeaa.Form (Rg enc form)
set_option linter.unusedVariables false
set_option linter.unusedSimpArgs false

theorem len_of {l : List (List S28)} {m : Nat} (h : ∀ x ∈ l, x.length ≤ m) (i : Nat) : (rw_ l i).length ≤ m := MergeJ.len64 h i
theorem rg_of {l : List (List S28)} (h : ∀ x ∈ l, ∀ s ∈ x, Rg s) : ∀ x ∈ l, ∀ s ∈ x, I64 s.f0 := fun x hx s hs => (h x hx s hs).1
theorem newF_rows (fs : List S119) (f : List (List S28)) (h : tot fs fs.length ≤ 1048576) (i : Nat) : (rw_ (newF fs f fs.length) i).length ≤ 1048576 := by
  by_cases hi : i < fs.length
  · have h1 := NewR.cl_tot fs hi
    have h2 : (rw_ (newF fs f fs.length) i).length = cl fs i := by simp [rw_, newF, List.getD_eq_getElem?_getD, hi]
    omega
  · rw [rw_none (by rw [newF_len]; omega)]
    exact Nat.zero_le _
theorem mergeF_rows (f o : List (List S28)) (h2 : ∀ x ∈ f, x.length ≤ 1048576) (h3 : ∀ x ∈ o, x.length ≤ 1048576) (i : Nat) : (rw_ (mergeF f o) i).length ≤ 1048576 := by
  have h4 := len_of h2 i
  have h5 := len_of h3 i
  by_cases hi : i < max f.length o.length
  · have h6 : (rw_ (mergeF f o) i).length = rlen f o i := by
      have : rw_ (mergeF f o) i = mrow f o i := by simp [rw_, mergeF, mpart, List.getD_eq_getElem?_getD, hi]
      rw [this]
      exact frow_len _ _ _ _ _
    rw [h6]
    unfold rlen
    omega
  · rw [rw_none (by unfold mergeF; rw [mpart_len]; omega)]
    exact Nat.zero_le _
def r9_16_T : Bool × List (List Nat × List Nat) := (true, [([], []), ([], []), ([1], [1]), ([0, 2], [0, 2]), ([], []), ([4], [4]), ([3, 5, 3], [3, 5]), ([6, 6, 0, 1, 2, 3, 4, 5, 6], [0, 6])])
def r9_16_B : List Nat := [0, 0, 2, 7, 0, 16, 63, 127]
theorem r9_16_tab : rtab .any (opsOf Try.f9 16) = r9_16_T := by kernel_rfl
theorem r9_16_bits : waitsOk r9_16_T.2 r9_16_B = true := by kernel_rfl
def r9_24_T : Bool × List (List Nat × List Nat) := (true, [([], []), ([0], [0]), ([], []), ([1, 2, 1], [1, 2]), ([3, 3], [3]), ([4], [4]), ([4], [4]), ([5, 6, 4, 4], [4, 5, 6]), ([4], [4]), ([7, 8, 7, 4], [4, 7, 8]), ([4, 9], [4, 9]), ([10, 9, 0, 1, 2, 3, 4, 5, 6, 7, 8, 9, 10], [10])])
def r9_24_B : List Nat := [0, 1, 0, 7, 15, 31, 31, 127, 31, 511, 1023, 2047]
theorem r9_24_tab : rtab .any (opsOf Try.f9 24) = r9_24_T := by kernel_rfl
theorem r9_24_bits : waitsOk r9_24_T.2 r9_24_B = true := by kernel_rfl
set_option maxHeartbeats 16000000 in
set_option maxRecDepth 100000 in
theorem law (A0 A1 A2 A3 : Option Addr) (c0 c1 c2 c3 : Nat) (gl : List S228) (fs : List S119) (f o : List (List S28)) (w : World) (hg : Kd.C k228 w A0 gl.length gl) (hf : Kd.C k119 w A1 fs.length fs) (h2 : Kd.C (Kd.slice 28 k28) w A2 f.length f) (h3 : Kd.C (Kd.slice 28 k28) w A3 o.length o)
    (e0 : gl.length ≤ c0) (e1 : fs.length ≤ c1) (e2 : f.length ≤ c2) (e3 : o.length ≤ c3) (lf : fs.length ≤ 1048576) (tf : tot fs fs.length ≤ 1048576) (l2 : f.length ≤ 1048576) (l3 : o.length ≤ 1048576) (x2 : ∀ x ∈ f, x.length ≤ 1048576) (x3 : ∀ x ∈ o, x.length ≤ 1048576)
    (r2 : ∀ x ∈ f, ∀ s ∈ x, Rg s) (r3 : ∀ x ∈ o, ∀ s ∈ x, Rg s) :
    Calls Try.prog 9 #[.agg #[.slice A0 gl.length c0, .slice A1 fs.length c1], .agg #[.slice A2 f.length c2], .agg #[.slice A3 o.length c3]] w fun e w' => e = .returned (.bool true) ∧ Below w.heap.size w w' := by
  obtain ⟨kn, hkn⟩ := NewR.ref_new gl fs f lf tf
  obtain ⟨km, hkm⟩ := MergeR.merge_ref f o (MergeJ.rg64 (rg_of r2)) (MergeJ.rg64 (rg_of r3)) (by omega) (by omega) (fun i => Nat.le_trans (len_of x2 i) (by decide)) (fun i => Nat.le_trans (len_of x3 i) (by decide))
  obtain ⟨ke, hke⟩ := Form.enc_ref (mergeF f o) (merge_Rg r2 r3)
  obtain ⟨kc, hkc⟩ := CopyR.copy_ref f (by omega) (fun x hx => Nat.le_trans (x2 x hx) (by decide))
  have HG := Aside0.mk hg
  have HF := Aside0.mk hf
  have H2 := Aside0.mk h2
  have H3 := Aside0.mk h3
  have TF := Aside0.mk tf
  have X2' := Aside0.mk x2
  have X3' := Aside0.mk x3
  have R2 := Aside0.mk r2
  have R3 := Aside0.mk r3
  have KN := Aside0.mk hkn
  have KM := Aside0.mk hkm
  have KE := Aside0.mk hke
  have KC := Aside0.mk hkc
  clear hg hf h2 h3 tf x2 x3 r2 r3 hkn hkm hke hkc
  go_enter Try.func9, Try.ntmps9
  go_upto_region 1 with fail
  have HB : Aside0 (Below w.heap.size w (((w.alloc (.cells #[.slice A0 gl.length c0, .slice A1 fs.length c1] 60)).alloc (.cells #[.slice A2 f.length c2] 24)).alloc (.cells #[.slice A3 o.length c3] 24))) := ⟨below_alloc (below_alloc (below_alloc (Below.refl _ _) _) _) _⟩
  have B3 : Aside0 ((((w.alloc (.cells #[.slice A0 gl.length c0, .slice A1 fs.length c1] 60)).alloc (.cells #[.slice A2 f.length c2] 24)).alloc (.cells #[.slice A3 o.length c3] 24)).heap[w.heap.size]? = some (.cells #[.slice A0 gl.length c0, .slice A1 fs.length c1] 60 (0, 0))) := ⟨blk_alloc (blk_alloc (blk_new _ _) _) _⟩
  have B4 : Aside0 ((((w.alloc (.cells #[.slice A0 gl.length c0, .slice A1 fs.length c1] 60)).alloc (.cells #[.slice A2 f.length c2] 24)).alloc (.cells #[.slice A3 o.length c3] 24)).heap[w.heap.size + 1]? = some (.cells #[.slice A2 f.length c2] 24 (0, 0))) := ⟨blk_alloc (by simpa using blk_new (w.alloc (.cells #[.slice A0 gl.length c0, .slice A1 fs.length c1] 60)) (.cells #[.slice A2 f.length c2] 24)) _⟩
  have B5 : Aside0 ((((w.alloc (.cells #[.slice A0 gl.length c0, .slice A1 fs.length c1] 60)).alloc (.cells #[.slice A2 f.length c2] 24)).alloc (.cells #[.slice A3 o.length c3] 24)).heap[w.heap.size + 1 + 1]? = some (.cells #[.slice A3 o.length c3] 24 (0, 0))) := ⟨by simpa using blk_new ((w.alloc (.cells #[.slice A0 gl.length c0, .slice A1 fs.length c1] 60)).alloc (.cells #[.slice A2 f.length c2] 24)) (.cells #[.slice A3 o.length c3] 24)⟩
  generalize ((w.alloc (.cells #[.slice A0 gl.length c0, .slice A1 fs.length c1] 60)).alloc (.cells #[.slice A2 f.length c2] 24)).alloc (.cells #[.slice A3 o.length c3] 24) = W0 at HB B3 B4 B5 ⊢
  have q0 : W0.cell? ⟨w.heap.size, 0, none⟩ = some (.slice A0 gl.length c0) := (blk_cell B3.out 0).trans rfl
  have q1 : W0.cell? ⟨w.heap.size, 1, none⟩ = some (.slice A1 fs.length c1) := (blk_cell B3.out 1).trans rfl
  have q2 : W0.cell? ⟨w.heap.size + 1, 0, none⟩ = some (.slice A2 f.length c2) := (blk_cell B4.out 0).trans rfl
  go_wp2_with fail
  clear q0 q1 q2
  refine (new_calls A0 c0 gl.length A1 c1 fs A2 c2 f W0 (Kd.C_below HF.out HB.out) (Kd.C_below H2.out HB.out) e2 lf TF.out).mono ?_
  rintro e W1 ⟨bp, S, rfl, hBk, hS, hb⟩
  have HBK : Aside0 (Bk W1 S bp (newF fs f fs.length) (tot fs fs.length)) := ⟨hBk⟩
  replace B3 := Aside0.mk (blk_below B3.out hb)
  replace B4 := Aside0.mk (blk_below B4.out hb)
  replace B5 := Aside0.mk (blk_below B5.out hb)
  replace HB := Aside0.mk (below_step HB.out hb)
  clear hBk hb
  go_upto_region 4 with fail
  have q0 : W1.cell? ⟨w.heap.size, 0, none⟩ = some (.slice A0 gl.length c0) := (blk_cell B3.out 0).trans rfl
  have q1 : W1.cell? ⟨w.heap.size, 1, none⟩ = some (.slice A1 fs.length c1) := (blk_cell B3.out 1).trans rfl
  have q2 : W1.cell? ⟨w.heap.size + 1, 0, none⟩ = some (.slice A2 f.length c2) := (blk_cell B4.out 0).trans rfl
  go_wp2_with fail
  clear q0 q1 q2
  refine (portageref18_New.calls kn A0 c0 gl A1 c1 fs A2 c2 f (newF fs f fs.length) W1 (Kd.C_below HG.out HB.out) e0 (Kd.C_below HF.out HB.out) e1 (Kd.C_below H2.out HB.out) e2 KN.out).mono ?_
  rintro e W2 ⟨v8, rfl, hs8, hb⟩
  obtain ⟨A8, c8, rfl⟩ := Kd.S_slice hs8
  have bl := below_alloc hb (.cells #[.slice A8 (newF fs f fs.length).length c8] 24)
  have V8 := Aside0.mk (Kd.R_alloc (Kd.S_R hs8) (.cells #[.slice A8 (newF fs f fs.length).length c8] 24))
  have B8 := Aside0.mk (blk_new W2 (.cells #[.slice A8 (newF fs f fs.length).length c8] 24))
  replace B3 := Aside0.mk (blk_below B3.out bl)
  replace B4 := Aside0.mk (blk_below B4.out bl)
  replace B5 := Aside0.mk (blk_below B5.out bl)
  replace HB := Aside0.mk (below_step HB.out bl)
  replace HBK := Aside0.mk (HBK.out.turn (Turn.of_below bl (fun _ => False)) (fun _ _ h => h))
  clear bl hs8 hb
  go_upto_region 5 with fail
  generalize W2.alloc (.cells #[.slice A8 (newF fs f fs.length).length c8] 24) = W3 at HBK HB B3 B4 B5 B8 V8 ⊢
  generalize W2.heap.size = g8 at B8 ⊢
  have q2 : W3.cell? ⟨w.heap.size + 1, 0, none⟩ = some (.slice A2 f.length c2) := (blk_cell B4.out 0).trans rfl
  have q3 : W3.cell? ⟨w.heap.size + 1 + 1, 0, none⟩ = some (.slice A3 o.length c3) := (blk_cell B5.out 0).trans rfl
  go_wp2_with fail
  clear q2 q3
  refine (portageref18_Merge.calls km A2 c2 f A3 c3 o (mergeF f o) W3 (Kd.C_below H2.out HB.out) e2 (Kd.C_below H3.out HB.out) e3 KM.out).mono ?_
  rintro e W4 ⟨v9, rfl, hs9, hb⟩
  obtain ⟨A9, c9, rfl⟩ := Kd.S_slice hs9
  have bl := below_alloc hb (.cells #[.slice A9 (mergeF f o).length c9] 24)
  have V9 := Aside0.mk (Kd.R_alloc (Kd.S_R hs9) (.cells #[.slice A9 (mergeF f o).length c9] 24))
  have B9 := Aside0.mk (blk_new W4 (.cells #[.slice A9 (mergeF f o).length c9] 24))
  replace B3 := Aside0.mk (blk_below B3.out bl)
  replace B4 := Aside0.mk (blk_below B4.out bl)
  replace B5 := Aside0.mk (blk_below B5.out bl)
  replace B8 := Aside0.mk (blk_below B8.out bl)
  replace V8 := Aside0.mk (Kd.R_below V8.out bl)
  replace HB := Aside0.mk (below_step HB.out bl)
  replace HBK := Aside0.mk (HBK.out.turn (Turn.of_below bl (fun _ => False)) (fun _ _ h => h))
  clear bl hs9 hb
  go_upto_region 6 with fail
  generalize W4.alloc (.cells #[.slice A9 (mergeF f o).length c9] 24) = W5 at HBK HB B3 B4 B5 B8 V8 B9 V9 ⊢
  generalize W4.heap.size = g9 at B9 ⊢
  have q9 : W5.cell? ⟨g9, 0, none⟩ = some (.slice A9 (mergeF f o).length c9) := (blk_cell B9.out 0).trans rfl
  go_wp2_with fail
  clear q9
  refine (portageref18_Encode.calls ke A9 c9 (mergeF f o) (enc (mergeF f o)).1 (enc (mergeF f o)).2 W5 (Kd.R_reads' V9.out).2.2 (Kd.R_reads' V9.out).2.1 (by rw [KE.out])).mono ?_
  rintro e W6 ⟨v10, rfl, hr10, hb⟩
  obtain ⟨A10, c10, rfl⟩ := Kd.R_slice hr10
  have V10 := Aside0.mk hr10
  replace B3 := Aside0.mk (blk_below B3.out hb)
  replace B4 := Aside0.mk (blk_below B4.out hb)
  replace B5 := Aside0.mk (blk_below B5.out hb)
  replace B8 := Aside0.mk (blk_below B8.out hb)
  replace B9 := Aside0.mk (blk_below B9.out hb)
  replace V8 := Aside0.mk (Kd.R_below V8.out hb)
  replace V9 := Aside0.mk (Kd.R_below V9.out hb)
  replace HB := Aside0.mk (below_step HB.out hb)
  replace HBK := Aside0.mk (HBK.out.turn (Turn.of_below hb (fun _ => False)) (fun _ _ h => h))
  clear hb hr10
  go_upto_region 7 with fail
  have q2 : W6.cell? ⟨w.heap.size + 1, 0, none⟩ = some (.slice A2 f.length c2) := (blk_cell B4.out 0).trans rfl
  go_wp2_with fail
  clear q2
  refine (portageref0_CopyProfile.calls kc A2 c2 f f W6 (Kd.C_below H2.out HB.out) e2 KC.out).mono ?_
  rintro e W7 ⟨v12, rfl, hs12, hb⟩
  obtain ⟨A12, c12, rfl⟩ := Kd.S_slice hs12
  have bl := below_alloc hb (.cells #[.slice A12 f.length c12] 24)
  have V12 := Aside0.mk (Kd.R_alloc (Kd.S_R hs12) (.cells #[.slice A12 f.length c12] 24))
  have B12 := Aside0.mk (blk_new W7 (.cells #[.slice A12 f.length c12] 24))
  replace B3 := Aside0.mk (blk_below B3.out bl)
  replace B4 := Aside0.mk (blk_below B4.out bl)
  replace B5 := Aside0.mk (blk_below B5.out bl)
  replace B8 := Aside0.mk (blk_below B8.out bl)
  replace B9 := Aside0.mk (blk_below B9.out bl)
  replace V8 := Aside0.mk (Kd.R_below V8.out bl)
  replace V9 := Aside0.mk (Kd.R_below V9.out bl)
  replace V10 := Aside0.mk (Kd.R_below V10.out bl)
  replace HB := Aside0.mk (below_step HB.out bl)
  replace HBK := Aside0.mk (HBK.out.turn (Turn.of_below bl (fun _ => False)) (fun _ _ h => h))
  clear bl hs12 hb
  go_upto_region 8 with fail
  generalize W7.alloc (.cells #[.slice A12 f.length c12] 24) = WZ at HBK HB B3 B4 B5 B8 V8 B9 V9 V10 B12 V12 ⊢
  generalize W7.heap.size = g12 at B12 ⊢
  obtain ⟨k8, hk8⟩ := SameM.same_read (Kd.R_reads' V8.out).2.2
  obtain ⟨k9, hk9⟩ := SameM.same_read (Kd.R_reads' V9.out).2.2
  obtain ⟨kf, hkf⟩ := SameM.same_read H2.out
  have K8 := Aside0.mk hk8
  have K9 := Aside0.mk hk9
  have KF := Aside0.mk hkf
  clear hk8 hk9 hkf
  have HW0 := Aside0.mk (Below.refl WZ.heap.size WZ)
  have HR0 : Aside0 (MemFam.Rows WZ.heap.size WZ 0 (fun _ => (none, 0, 0)) (fun _ => []) (fun q => WZ.heap.size ≤ q)) := ⟨MemFam.Rows.nil⟩
  have HL0 : Aside0 (Fam.kh.R 77 WZ WZ.heap.size (fun _ => True) (.slice none 0 0) ((List.range 0).map (fun _ => ((none, 0, 0) : Fam.HS)))) := ⟨Kd.R_nil _ _ _ _ _⟩
  go_wp2_with fail
  go_loopw [13, 14] (fun l i wr => ∃ (k n : Nat) (vs : Nat → Fam.HS) (xs : Nat → List S28) (lv : Value), k ≤ 2 ∧ lv = l ∧ i = .int .i64 k ∧ n ≤ k * 8388608 ∧ Aside0 (Below WZ.heap.size WZ wr) ∧ Aside0 (MemFam.Rows WZ.heap.size wr n vs xs (fun q => WZ.heap.size ≤ q)) ∧ Aside0 (∀ j, j < n → (xs j).length ≤ 8388608) ∧ Aside0 (Fam.kh.R 77 wr WZ.heap.size (fun _ => True) lv ((List.range n).map vs))) (fun _ i _ => 2 - (intOf i).toNat)
  case atStart => exact ⟨0, 0, _, _, _, by omega, rfl, rfl, by omega, HW0, HR0, ⟨fun j hj => absurd hj (Nat.not_lt_zero _)⟩, HL0⟩
  case round =>
    clear HW0 HR0 HL0
    obtain ⟨k, n, vs, xs, lv, hk, rfl, rfl, hn, HW, HR, HX, HL⟩ := hrel
    by_cases hlt : k < 2
    · have HP := Aside0.mk (profile_calls bp (tot fs fs.length) S (newF fs f fs.length) wr (HBK.out.turn (Turn.of_below HW.out (fun _ => False)) (fun _ _ h => h)) (by have := TF.out; omega))
      go_wp2_with fail
      refine HP.out.mono ?_
      rintro e X1 ⟨v15, rfl, hs15, hb15⟩
      obtain ⟨A15, c15, rfl⟩ := Kd.S_slice hs15
      have bl := below_alloc hb15 (.cells #[.slice A15 (newF fs f fs.length).length c15] 24)
      have S15 := Aside0.mk (Kd.S_alloc hs15 (.cells #[.slice A15 (newF fs f fs.length).length c15] 24))
      have B15 := Aside0.mk (blk_new X1 (.cells #[.slice A15 (newF fs f fs.length).length c15] 24))
      have HW1 := Aside0.mk (below_step HW.out bl)
      have HLT : Aside0 (∀ q, lv.ownBlock = some q → q < wr.heap.size) := ⟨fun q hq => Kd.R_lt HL.out q hq⟩
      replace HR := Aside0.mk (HR.out.bound.below bl)
      replace HL := Aside0.mk (Kd.R_below HL.out bl)
      have hwr := Aside0.mk bl.size
      have hwz := Aside0.mk HW.out.size
      clear bl hs15 hb15 HP HW
      go_upto_region 13 with fail
      generalize X1.alloc (.cells #[.slice A15 (newF fs f fs.length).length c15] 24) = X2 at S15 B15 HW1 HR HL hwr ⊢
      generalize X1.heap.size = g15 at B15 ⊢
      have q12 : X2.cell? ⟨g12, 0, none⟩ = some (.slice A12 f.length c12) := (blk_cell (blk_below B12.out HW1.out) 0).trans rfl
      have q5 : X2.cell? ⟨w.heap.size + 1 + 1, 0, none⟩ = some (.slice A3 o.length c3) := (blk_cell (blk_below B5.out HW1.out) 0).trans rfl
      have hv12 := Kd.R_reads' (Kd.R_below V12.out HW1.out)
      have HM := Aside0.mk (merge_calls A12 c12 f A3 c3 o X2 hv12.2.2 hv12.2.1 (Kd.C_below (Kd.C_below H3.out HB.out) HW1.out) e3 (rg_of R2.out) (rg_of R3.out) (by omega) (by omega) (fun x hx => Nat.le_trans (X2'.out x hx) (by decide)) (fun x hx => Nat.le_trans (X3'.out x hx) (by decide)))
      clear hv12
      go_wp2_with fail
      clear q12 q5
      refine HM.out.mono ?_
      rintro e X3 ⟨v16, rfl, hs16, hb16⟩
      obtain ⟨A16, c16, rfl⟩ := Kd.S_slice hs16
      have bl := below_alloc hb16 (.cells #[.slice A16 (mergeF f o).length c16] 24)
      have S16 := Aside0.mk (Kd.S_alloc hs16 (.cells #[.slice A16 (mergeF f o).length c16] 24))
      have B16 := Aside0.mk (blk_new X3 (.cells #[.slice A16 (mergeF f o).length c16] 24))
      have hsz := Aside0.mk bl.size
      replace S15 := Aside0.mk (Kd.S_below (Kd.S_bound S15.out) bl)
      replace B15 := Aside0.mk (blk_below B15.out bl)
      replace HW1 := Aside0.mk (below_step HW1.out bl)
      replace HR := Aside0.mk (HR.out.below bl)
      replace HL := Aside0.mk (Kd.R_below HL.out bl)
      clear bl hs16 hb16 HM
      go_upto_region 14 with fail
      generalize X3.alloc (.cells #[.slice A16 (mergeF f o).length c16] 24) = X4 at S15 B15 S16 B16 HW1 HR HL hsz ⊢
      generalize X3.heap.size = g16 at B16 ⊢
      -- each is what it should be
      have q15 : X4.cell? ⟨g15, 0, none⟩ = some (.slice A15 (newF fs f fs.length).length c15) := (blk_cell B15.out 0).trans rfl
      have q8 : X4.cell? ⟨g8, 0, none⟩ = some (.slice A8 (newF fs f fs.length).length c8) := (blk_cell (blk_below B8.out HW1.out) 0).trans rfl
      have r15 := Kd.S_reads' S15.out
      have r8 := Kd.R_reads' (Kd.R_below V8.out HW1.out)
      have HM := Aside0.mk (portageref0_SameProfile.calls k8 A15 c15 (newF fs f fs.length) A8 c8 (newF fs f fs.length) true X4 r15.2.2 r15.2.1 r8.2.2 r8.2.1 K8.out)
      clear r15 r8
      go_wp2_with fail
      clear q15 q8
      refine HM.out.mono ?_
      rintro e X5 ⟨rfl, hb⟩
      replace S15 := Aside0.mk (Kd.S_below S15.out hb)
      replace S16 := Aside0.mk (Kd.S_below S16.out hb)
      replace B15 := Aside0.mk (blk_below B15.out hb)
      replace B16 := Aside0.mk (blk_below B16.out hb)
      replace HW1 := Aside0.mk (below_step HW1.out hb)
      replace HR := Aside0.mk (HR.out.below hb)
      replace HL := Aside0.mk (Kd.R_below HL.out hb)
      clear hb HM
      have q16 : X5.cell? ⟨g16, 0, none⟩ = some (.slice A16 (mergeF f o).length c16) := (blk_cell B16.out 0).trans rfl
      have q9 : X5.cell? ⟨g9, 0, none⟩ = some (.slice A9 (mergeF f o).length c9) := (blk_cell (blk_below B9.out HW1.out) 0).trans rfl
      have r16 := Kd.S_reads' S16.out
      have r9 := Kd.R_reads' (Kd.R_below V9.out HW1.out)
      have HM := Aside0.mk (portageref0_SameProfile.calls k9 A16 c16 (mergeF f o) A9 c9 (mergeF f o) true X5 r16.2.2 r16.2.1 r9.2.2 r9.2.1 K9.out)
      clear r16 r9
      go_wp2_with fail
      clear q16 q9
      refine HM.out.mono ?_
      rintro e X6 ⟨rfl, hb⟩
      replace S15 := Aside0.mk (Kd.S_below S15.out hb)
      replace S16 := Aside0.mk (Kd.S_below S16.out hb)
      replace B15 := Aside0.mk (blk_below B15.out hb)
      replace B16 := Aside0.mk (blk_below B16.out hb)
      replace HW1 := Aside0.mk (below_step HW1.out hb)
      replace HR := Aside0.mk (HR.out.below hb)
      replace HL := Aside0.mk (Kd.R_below HL.out hb)
      clear hb HM
      go_upto_region 16 with fail
      replace S15 := Aside0.mk (Kd.S_lower (Kd.S_below S15.out (below_drew (Below.refl _ X6))) hwz.out)
      replace S16 := Aside0.mk (Kd.S_lower (Kd.S_below S16.out (below_drew (Below.refl _ X6))) (Nat.le_trans hwz.out hwr.out))
      replace B15 := Aside0.mk (blk_below B15.out (below_drew (Below.refl _ X6)))
      replace B16 := Aside0.mk (blk_below B16.out (below_drew (Below.refl _ X6)))
      replace HW1 := Aside0.mk (below_step HW1.out (below_drew (Below.refl _ X6)))
      replace HR := Aside0.mk (HR.out.below (below_drew (Below.refl _ X6)))
      replace HL := Aside0.mk (Kd.R_below HL.out (below_drew (Below.refl _ X6)))
      refine start_ (n := 8) (S := fun w' => w'.cell? ⟨g15, 0, none⟩ = some (.slice A15 (newF fs f fs.length).length c15) ∧ w'.cell? ⟨g16, 0, none⟩ = some (.slice A16 (mergeF f o).length c16)) (ds := []) #[false, false, false, false, false, false, false, false] (by kernel_rfl) rfl rfl ⟨(blk_cell B15.out 0).trans rfl, (blk_cell B16.out 0).trans rfl⟩ (fun hHeld => ?_)
      refine with_tabW r9_16_tab r9_16_bits (fun HT_ HW_ => ?_)
      generalize World.drew X6 = Y0 at S15 S16 B15 B16 HW1 HR HL hHeld ⊢
      refine pure_ (i := 0) (N := some 56) (v := ?_) (a' := ?_) #[true, false, false, false, false, false, false, false] rfl rfl (any_of HT_.out (by kernel_rfl)) (fun _ _ _ h => h) (Or.inl ⟨by rfl, ?_⟩) ?_ ?_
      rotate_left
      · intro w'
        go_simp
        with_reducible rfl
      rotate_left
      · simp only [Act.put, List.setIfInBounds_toArray, List.set_cons_zero, List.set_cons_succ, i64_w, i32_w]
        rfl
      refine pure_ (i := 1) (N := some 57) (v := ?_) (a' := ?_) #[true, true, false, false, false, false, false, false] rfl rfl (any_of HT_.out (by kernel_rfl)) (fun _ _ _ h => h) (Or.inl ⟨by rfl, ?_⟩) ?_ ?_
      rotate_left
      · intro w'
        go_simp
        with_reducible rfl
      rotate_left
      · simp only [Act.put, List.setIfInBounds_toArray, List.set_cons_zero, List.set_cons_succ, i64_w, i32_w]
        rfl
      refine pure_ (i := 4) (N := some 60) (v := ?_) (a' := ?_) #[true, true, false, false, true, false, false, false] rfl rfl (any_of HT_.out (by kernel_rfl)) (fun _ _ _ h => h) (Or.inl ⟨by rfl, ?_⟩) ?_ ?_
      rotate_left
      · intro w'
        go_simp
        with_reducible rfl
      rotate_left
      · simp only [Act.put, List.setIfInBounds_toArray, List.set_cons_zero, List.set_cons_succ, i64_w, i32_w]
        rfl
      refine take_ (i := 2) (N := some 58) (v := ?_) (a' := ?_) #[true, true, true, false, true, false, false, false] rfl rfl (take_ofW HT_.out HW_.out (by kernel_rfl)) (fun _ _ _ h => h) (Or.inl ⟨by rfl, ?_⟩) hHeld ?_ ?_
      rotate_left
      · rintro w' ⟨s0, s1⟩
        go_simp
        with_reducible rfl
      rotate_left
      · simp only [Act.put, List.setIfInBounds_toArray, List.set_cons_zero, List.set_cons_succ, i64_w, i32_w]
        rfl
      refine take_ (i := 5) (N := some 61) (v := ?_) (a' := ?_) #[true, true, true, false, true, true, false, false] rfl rfl (take_ofW HT_.out HW_.out (by kernel_rfl)) (fun _ _ _ h => h) (Or.inl ⟨by rfl, ?_⟩) hHeld ?_ ?_
      rotate_left
      · rintro w' ⟨s0, s1⟩
        go_simp
        with_reducible rfl
      rotate_left
      · simp only [Act.put, List.setIfInBounds_toArray, List.set_cons_zero, List.set_cons_succ, i64_w, i32_w]
        rfl
      refine one_ (i := 3) (N := some 59) #[true, true, true, true, true, true, false, false] rfl rfl (one_of HT_.out (by kernel_rfl)) (by decide) (fun K hK => ?_)
      obtain ⟨us15, hRS15, hc15⟩ := S_rows S15.out
      have R15 := Aside0.mk hRS15
      have hln : (newF fs f fs.length).length = fs.length := newF_len fs f fs.length
      refine Kd.R_append_rows_step Fam.kh (w0 := WZ) WZ.heap.size (by rfl) (.tmp 56) (.tmp 58) 22 77 (.slice none 0 0) 24 rfl Try.underlying22 info77_ rfl (by decide) (by decide) lv ((List.range n).map vs) ((List.range (newF fs f fs.length).length).map us15) A15 (newF fs f fs.length).length c15 (fun _ => True) (fun _ => False) rfl rfl HL.out (reads_rows (by omega) hc15) (fun _ _ h => h) (fun _ h => h.elim) (fun _ _ => trivial) HW1.out HW1.out.size (by rw [List.length_map, List.length_range]; omega) ?_
      intro v1 Y1 ho hb hg hat
      have hty := Kd.R_typed HL.out
      replace R15 := Aside0.mk (R15.out.over hty hg)
      replace HR := Aside0.mk (HR.out.over hty hg)
      replace S16 := Aside0.mk (Kd.S_grown S16.out hg (fun q hq e => by have h1 := HLT.out q e.symm; have h2 := hwr.out; omega))
      replace B15 := Aside0.mk (blk_grown B15.out hg (Kd.R_ne HL.out B15.out (by decide)))
      replace B16 := Aside0.mk (blk_grown B16.out hg (Kd.R_ne HL.out B16.out (by decide)))
      have HL1 := Aside0.mk ho
      replace HW1 := Aside0.mk hb
      clear ho hb hg hat hty HL hRS15 hc15
      refine hK.out _ _ ⟨(blk_cell B15.out 0).trans rfl, (blk_cell B16.out 0).trans rfl⟩ (fun hHeld => ?_)
      clear hK K
      refine norm_ (a' := ?_) ?_ ?_
      rotate_left
      · show Act.put _ (some 59) _ = _
        simp only [Act.put, List.setIfInBounds_toArray, List.set_cons_zero, List.set_cons_succ, i64_w, i32_w]
        rfl
      refine one_ (i := 6) (N := some 62) #[true, true, true, true, true, true, true, false] rfl rfl (one_of HT_.out (by kernel_rfl)) (by decide) (fun K hK => ?_)
      obtain ⟨us16, hRS16, hc16⟩ := S_rows S16.out
      have R16 := Aside0.mk hRS16
      have hlm : (mergeF f o).length ≤ 1048576 := by unfold mergeF; rw [mpart_len]; omega
      refine Kd.R_append_rows_step Fam.kh (w0 := WZ) WZ.heap.size (by rfl) (.tmp 59) (.tmp 61) 22 77 (.slice none 0 0) 24 rfl Try.underlying22 info77_ rfl (by decide) (by decide) v1 _ ((List.range (mergeF f o).length).map us16) A16 (mergeF f o).length c16 (fun _ => True) (fun _ => False) rfl rfl HL1.out (reads_rows (by omega) hc16) (fun _ _ h => h) (fun _ h => h.elim) (fun _ _ => trivial) HW1.out HW1.out.size (by rw [List.length_append, List.length_map, List.length_map, List.length_range, List.length_range]; omega) ?_
      intro v2 Y2 ho hb hg hat
      have hty := Kd.R_typed HL1.out
      replace R15 := Aside0.mk (R15.out.over hty hg)
      replace HR := Aside0.mk (HR.out.over hty hg)
      replace R16 := Aside0.mk (R16.out.over hty hg)
      replace B15 := Aside0.mk (blk_grown B15.out hg (Kd.R_ne HL1.out B15.out (by decide)))
      replace B16 := Aside0.mk (blk_grown B16.out hg (Kd.R_ne HL1.out B16.out (by decide)))
      have HL2 := Aside0.mk ho
      replace HW1 := Aside0.mk hb
      clear ho hb hg hat hty HL1 hRS16 hc16 S16
      refine hK.out _ _ ⟨(blk_cell B15.out 0).trans rfl, (blk_cell B16.out 0).trans rfl⟩ (fun hHeld => ?_)
      clear hK K
      refine norm_ (a' := ?_) ?_ ?_
      rotate_left
      · show Act.put _ (some 62) _ = _
        simp only [Act.put, List.setIfInBounds_toArray, List.set_cons_zero, List.set_cons_succ, i64_w, i32_w]
        rfl
      refine pure_ (i := 7) (N := some 13) (v := ?_) (a' := ?_) #[true, true, true, true, true, true, true, true] rfl rfl (any_of HT_.out (by kernel_rfl)) (fun _ _ _ h => h) (Or.inl ⟨by rfl, ?_⟩) ?_ ?_
      rotate_left
      · intro w'
        go_simp
        with_reducible rfl
      rotate_left
      · simp only [Act.put, List.setIfInBounds_toArray, List.set_cons_zero, List.set_cons_succ, i64_w, i32_w]
        rfl
      refine done_ (done_of HT_.out (by kernel_rfl)) ?_
      clear hHeld
      have hRA := (HR.out.append R15.out (fun q h1 h2 => by have := h1.2.2; have := h2.1; omega)).append R16.out (fun q h1 h2 => by
        rcases h1 with h1 | h1
        · have h3 := h1.2.2; have h4 := hwr.out; omega
        · have h3 := h1.2.2.1; omega)
      rw [range_append, range_append] at HL2
      have RA := Aside0.mk (hRA.mono (ok' := fun q => WZ.heap.size ≤ q) (fun q h => by
        have h5 := hwz.out
        have h6 := hwr.out
        rcases h with (h | h) | h
        · exact h.1
        · have := h.1; omega
        · omega))
      have HBY := Aside0.mk (enc_bytes (merge_Rg R2.out R3.out))
      have HEL := Aside0.mk (Form.enc_length (mergeF f o) (merge_Rg R2.out R3.out))
      have HLN := Aside0.mk hln
      clear hRA R15 R16 HR S15 B15 B16 HLT hln
      go_upto_region 17 with fail
      have r10 := Kd.R_reads' (Kd.R_below V10.out HW1.out)
      have HD := Aside0.mk (DecodeS.decode A10 c10 (enc (mergeF f o)).1 Y2 r10.2.2 (by have := HEL.out; omega) HBY.out)
      clear r10 HBY HEL
      go_wp2_with fail
      refine HD.out.mono ?_
      rintro e Y3 ⟨v17, rfl, hs17, hb17⟩
      obtain ⟨N, VS, XS, hN, RA2, HXA, HLA⟩ : ∃ (N : Nat) (VS : Nat → Fam.HS) (XS : Nat → List S28), N ≤ n + 2097152 ∧ Aside0 (MemFam.Rows WZ.heap.size Y2 N VS XS (fun q => WZ.heap.size ≤ q)) ∧ Aside0 (∀ j, j < N → (XS j).length ≤ 8388608) ∧ Aside0 (Fam.kh.R 77 Y2 WZ.heap.size (fun _ => True) v2 ((List.range N).map VS)) :=
        ⟨_, _, _, by have := HLN.out; omega, RA, ⟨fun j hj => by
          have h4 := newF_rows fs f TF.out (j - n)
          have h5 := mergeF_rows f o X2'.out X3'.out (j - (n + (newF fs f fs.length).length))
          split
          · split
            · rename_i h6
              exact HX.out j h6
            · omega
          · omega⟩, HL2⟩
      clear RA HL2 HX HD
      obtain ⟨A17, c17, hv17⟩ := Kd.S_slice hs17
      subst hv17
      by_cases hno : (enc (mergeF f o)).2 = 0
      · have hdec : Decode.dec (enc (mergeF f o)).1 = (0, mergeF f o) := by
          obtain ⟨h1, h2⟩ := enc_zero (merge_Rg R2.out R3.out) hno
          rw [h2]
          exact BackPure.dec_form_ h1
        rw [hdec] at hs17 ⊢
        have hb0 : ((enc (mergeF f o)).2 == 0) = true := by simpa using hno
        have HNO := Aside0.mk hno
        clear hno
        simp only at hs17 ⊢
        have bl := below_alloc hb17 (.cells #[.slice A17 (mergeF f o).length c17] 24)
        have S17 := Aside0.mk (Kd.S_alloc hs17 (.cells #[.slice A17 (mergeF f o).length c17] 24))
        have B17 := Aside0.mk (blk_new Y3 (.cells #[.slice A17 (mergeF f o).length c17] 24))
        have hy2 := Aside0.mk HW1.out.size
        replace HW1 := Aside0.mk (below_step HW1.out bl)
        have RA3 := Aside0.mk (RA2.out.bound.below bl)
        replace HLA := Aside0.mk (Kd.R_below HLA.out bl)
        clear bl hs17 hb17 RA2 hdec
        go_upto_region 19 with fail
        generalize Y3.alloc (.cells #[.slice A17 (mergeF f o).length c17] 24) = Y4 at S17 B17 HW1 RA3 HLA ⊢
        generalize Y3.heap.size = g17 at B17 ⊢
        have q17 : Y4.cell? ⟨g17, 0, none⟩ = some (.slice A17 (mergeF f o).length c17) := (blk_cell B17.out 0).trans rfl
        have q9 : Y4.cell? ⟨g9, 0, none⟩ = some (.slice A9 (mergeF f o).length c9) := (blk_cell (blk_below B9.out HW1.out) 0).trans rfl
        have r17 := Kd.S_reads' S17.out
        have r9 := Kd.R_reads' (Kd.R_below V9.out HW1.out)
        have HM := Aside0.mk (portageref0_SameProfile.calls k9 A17 c17 (mergeF f o) A9 c9 (mergeF f o) true Y4 r17.2.2 r17.2.1 r9.2.2 r9.2.1 K9.out)
        clear r17 r9
        go_wp2_with fail
        clear q17 q9
        refine HM.out.mono ?_
        rintro e Y5 ⟨rfl, hb⟩
        replace S17 := Aside0.mk (Kd.S_below S17.out hb)
        replace B17 := Aside0.mk (blk_below B17.out hb)
        replace HW1 := Aside0.mk (below_step HW1.out hb)
        replace RA3 := Aside0.mk (RA3.out.below hb)
        replace HLA := Aside0.mk (Kd.R_below HLA.out hb)
        clear hb HM
        go_upto_region 21 with fail
        have q17 : Y5.cell? ⟨g17, 0, none⟩ = some (.slice A17 (mergeF f o).length c17) := (blk_cell B17.out 0).trans rfl
        go_wp2_with (first | (at_builtin; refine Aside0.out (p := _) ?_) | go_in)
        refine Aside0.mk ?_
        obtain ⟨us17, hRS17, hc17⟩ := S_rows (Kd.S_lower S17.out hy2.out)
        have R17 := Aside0.mk hRS17
        have hlm2 : (mergeF f o).length ≤ 1048576 := by unfold mergeF; rw [mpart_len]; omega
        refine Kd.R_append_rows Fam.kh (w0 := WZ) WZ.heap.size rfl (.tmp 78) (.tmp 80) 22 77 (.slice none 0 0) 24 rfl Try.underlying22 info77_ rfl (by decide) (by decide) v2 _ ((List.range (mergeF f o).length).map us17) A17 (mergeF f o).length c17 (fun _ => True) (fun _ => False) rfl rfl HLA.out (reads_rows (by omega) hc17) (fun _ _ h => h) (fun _ h => h.elim) (fun _ _ => trivial) HW1.out HW1.out.size (by rw [List.length_map, List.length_range]; omega) ?_
        intro v3 Y6 ho hb hg hat
        have hty := Kd.R_typed HLA.out
        have hRA := (RA3.out.over hty hg).append (R17.out.over hty hg) (fun q h1 h2 => by have := h1.2.2; omega)
        rw [range_append] at ho
        have HL3 := Aside0.mk ho
        have HW3 := Aside0.mk hb
        have RA4 := Aside0.mk (hRA.mono (ok' := fun q => WZ.heap.size ≤ q) (fun q h => h.elim (fun h => h.1) (fun h => Nat.le_trans hy2.out h)))
        have HXB : Aside0 (∀ j, j < N + (mergeF f o).length → (if j < N then XS j else rw_ (mergeF f o) (j - N)).length ≤ 8388608) := ⟨fun j hj => by
          have h5 := mergeF_rows f o X2'.out X3'.out (j - N)
          split
          · rename_i h6
            exact HXA.out j h6
          · omega⟩
        clear ho hb hg hat hty hRA HLA HW1 RA3 R17 HXA hRS17 hc17 q17
        go_wp2_with fail
        go_roundw
        case rel => exact ⟨k + 1, N + (mergeF f o).length, _, _, v3, by omega, rfl, by go_num, by omega, HW3, RA4, HXB, HL3⟩
        case measure => simp [intOf]; omega
      · have hdec : Decode.dec (enc (mergeF f o)).1 = (2, []) := by
          rw [enc_none hno]
          unfold Decode.dec
          rw [if_pos (by simp)]
        rw [hdec] at hs17 ⊢
        simp only [List.length_nil] at hs17 ⊢
        have bl := below_alloc hb17 (.cells #[.slice A17 0 c17] 24)
        replace HW1 := Aside0.mk (below_step HW1.out bl)
        have RA3 := Aside0.mk (RA2.out.below bl)
        replace HLA := Aside0.mk (Kd.R_below HLA.out bl)
        clear bl hs17 hb17 RA2 hdec
        have HNO := Aside0.mk hno
        go_upto_region 18 with fail
        generalize Y3.alloc (.cells #[.slice A17 0 c17] 24) = Y4 at HW1 RA3 HLA ⊢
        go_wp2_with fail
        exact ⟨⟨k + 1, N, VS, XS, v2, by omega, rfl, by go_num, by omega, HW1, RA3, HXA, HLA⟩, by simp [intOf]; omega⟩
    · obtain rfl : k = 2 := by omega
      have hcl : ∀ W', Kept wr W' (Fam.Own vs n) → ∀ Al cl m, lv = .slice Al m cl → Fam.kh.C W' Al n ((List.range n).map vs) := fun W' hk Al cl m hlv => by
        have h1 := Kd.R_reok (ok := fun b => ¬ Fam.Own vs n b) rfl HL.out (fun b hb ⟨j, hj, he⟩ => by
          obtain ⟨c1, h1⟩ := Kd.R_typed HL.out b hb
          obtain ⟨c2, h2⟩ := Kd.R_typed (HR.out.rows j hj) b he
          exact blk_ne h1 h2 (by decide) rfl)
        subst hlv
        have h2 := Kd.R_reads' (Kd.R_kept h1 hk (fun k h => h))
        have h3 := h2.2.2
        rw [List.length_map, List.length_range] at h3
        exact h3
      obtain ⟨Al, cl, hlv⟩ := Kd.R_slice HL.out
      rw [List.length_map, List.length_range] at hlv
      have HAP := Aside0.mk (Fam.apart_calls Al n cl vs (fun j => (xs j).length) xs WZ wr ⟨HW.out, HR.out.rows, HR.out.apart⟩ (fun _ _ => rfl) (fun W' hk => hcl W' hk Al cl n hlv) (fun j hj => by have := HX.out j hj; omega) (by omega))
      subst hlv
      have FC : Aside0 (∀ w' : World, Below WZ.heap.size WZ w' → w'.cell? ⟨g8, 0, none⟩ = some (.slice A8 (newF fs f fs.length).length c8) ∧ w'.cell? ⟨g12, 0, none⟩ = some (.slice A12 f.length c12) ∧ w'.cell? ⟨w.heap.size + 1 + 1, 0, none⟩ = some (.slice A3 o.length c3) ∧ w'.cell? ⟨g9, 0, none⟩ = some (.slice A9 (mergeF f o).length c9)) := ⟨fun w' hb => ⟨(blk_cell (blk_below B8.out hb) 0).trans rfl, (blk_cell (blk_below B12.out hb) 0).trans rfl, (blk_cell (blk_below B5.out hb) 0).trans rfl, (blk_cell (blk_below B9.out hb) 0).trans rfl⟩⟩
      clear hcl HL HR HX hn hlt hk HW
      go_wp2_with fail
      refine HAP.out.mono ?_
      rintro e V1 ⟨rfl, hbV, hkV⟩
      have HWV := Aside0.mk hbV
      clear hbV hkV HAP
      have q12 : V1.cell? ⟨g12, 0, none⟩ = some (.slice A12 f.length c12) := (FC.out V1 HWV.out).2.1
      have q4 : V1.cell? ⟨w.heap.size + 1, 0, none⟩ = some (.slice A2 f.length c2) := (blk_cell (blk_below B4.out HWV.out) 0).trans rfl
      have r12 := Kd.R_reads' (Kd.R_below V12.out HWV.out)
      have HM := Aside0.mk (portageref0_SameProfile.calls kf A12 c12 f A2 c2 f true V1 r12.2.2 r12.2.1 (Kd.C_below (Kd.C_below H2.out HB.out) HWV.out) e2 KF.out)
      clear r12
      go_wp2_with fail
      clear q12 q4
      refine HM.out.mono ?_
      rintro e V2 ⟨rfl, hb⟩
      replace HWV := Aside0.mk (below_step HWV.out hb)
      clear hb HM
      go_upto_region 24 with fail
      replace HWV := Aside0.mk (below_step HWV.out (below_drew (Below.refl _ V2)))
      refine start_ (n := 12) (S := fun w' => w'.cell? ⟨g8, 0, none⟩ = some (.slice A8 (newF fs f fs.length).length c8) ∧ w'.cell? ⟨g12, 0, none⟩ = some (.slice A12 f.length c12) ∧ w'.cell? ⟨w.heap.size + 1 + 1, 0, none⟩ = some (.slice A3 o.length c3) ∧ w'.cell? ⟨g9, 0, none⟩ = some (.slice A9 (mergeF f o).length c9)) (ds := []) #[false, false, false, false, false, false, false, false, false, false, false, false] (by kernel_rfl) rfl rfl (FC.out _ HWV.out) (fun hHeld => ?_)
      refine with_tabW r9_24_tab r9_24_bits (fun HT_ HW_ => ?_)
      generalize World.drew V2 = Z0 at HWV hHeld ⊢
      refine pure_ (i := 0) (N := some 91) (v := ?_) (a' := ?_) #[true, false, false, false, false, false, false, false, false, false, false, false] rfl rfl (any_of HT_.out (by kernel_rfl)) (fun _ _ _ h => h) (Or.inl ⟨by rfl, ?_⟩) ?_ ?_
      rotate_left
      · intro w'
        go_simp
        with_reducible rfl
      rotate_left
      · simp only [Act.put, List.setIfInBounds_toArray, List.set_cons_zero, List.set_cons_succ, i64_w, i32_w]
        rfl
      refine take_ (i := 2) (N := some 93) (v := ?_) (a' := ?_) #[true, false, true, false, false, false, false, false, false, false, false, false] rfl rfl (take_ofW HT_.out HW_.out (by kernel_rfl)) (fun _ _ _ h => h) (Or.inl ⟨by rfl, ?_⟩) hHeld ?_ ?_
      rotate_left
      · rintro w' ⟨s0, s1, s2, s3⟩
        go_simp
        with_reducible rfl
      rotate_left
      · simp only [Act.put, List.setIfInBounds_toArray, List.set_cons_zero, List.set_cons_succ, i64_w, i32_w]
        rfl
      have HP := Aside0.mk (profile_calls bp (tot fs fs.length) S (newF fs f fs.length) Z0 (HBK.out.turn (Turn.of_below HWV.out (fun _ => False)) (fun _ _ h => h)) (by have := TF.out; omega))
      refine one_ (i := 1) (N := some 92) #[true, true, true, false, false, false, false, false, false, false, false, false] rfl rfl (one_of HT_.out (by kernel_rfl)) (by decide) (fun K hK => ?_)
      refine goes_ Try.func37 (by kernel_rfl) rfl #[.pointer (some ⟨bp, 0, none⟩)] (by rfl) rfl rfl (by (try simp only [List.map_toArray, List.map_cons, List.map_nil]); first | done | rfl) ?_
      refine (HP.out).mono ?_
      rintro e Z1 ⟨v20, rfl, hs20, hb20⟩
      refine ⟨_, rfl, ?_⟩
      replace HWV := Aside0.mk (below_step HWV.out hb20)
      obtain ⟨A20, c20, hv20⟩ := Kd.S_slice hs20
      subst hv20
      have r1 := Kd.S_reads' hs20
      have r8 := Kd.R_reads' (Kd.R_below V8.out HWV.out)
      have HSP := Aside0.mk (portageref0_SameProfile.calls k8 A20 c20 (newF fs f fs.length) A8 c8 (newF fs f fs.length) true Z1 r1.2.2 r1.2.1 r8.2.2 r8.2.1 K8.out)
      clear hs20 hb20 r1 r8 HP
      refine hK.out _ _ (FC.out _ HWV.out) (fun hHeld => ?_)
      clear hK K
      refine norm_ (a' := ?_) ?_ ?_
      rotate_left
      · show Act.put _ (some 92) _ = _
        simp only [Act.put, List.setIfInBounds_toArray, List.set_cons_zero, List.set_cons_succ, i64_w, i32_w]
        rfl
      refine one_ (i := 3) (N := some 94) #[true, true, true, true, false, false, false, false, false, false, false, false] rfl rfl (one_of HT_.out (by kernel_rfl)) (by decide) (fun K hK => ?_)
      refine goes_ Try.func23 (by kernel_rfl) rfl #[.agg #[.slice A20 (newF fs f fs.length).length c20], .agg #[.slice A8 (newF fs f fs.length).length c8]] (by rfl) rfl rfl (by (try simp only [List.map_toArray, List.map_cons, List.map_nil]); first | done | rfl) ?_
      refine (HSP.out).mono ?_
      rintro e Z2 ⟨rfl, hb⟩
      refine ⟨_, rfl, ?_⟩
      replace HWV := Aside0.mk (below_step HWV.out hb)
      clear hb HSP
      refine hK.out _ _ (FC.out _ HWV.out) (fun hHeld => ?_)
      clear hK K
      refine norm_ (a' := ?_) ?_ ?_
      rotate_left
      · show Act.put _ (some 94) _ = _
        simp only [Act.put, List.setIfInBounds_toArray, List.set_cons_zero, List.set_cons_succ, i64_w, i32_w]
        rfl
      refine pure_ (i := 4) (N := some 95) (v := ?_) (a' := ?_) #[true, true, true, true, true, false, false, false, false, false, false, false] rfl rfl (any_of HT_.out (by kernel_rfl)) (fun _ _ _ h => h) (Or.inl ⟨by rfl, ?_⟩) ?_ ?_
      rotate_left
      · intro w'
        go_simp
        with_reducible rfl
      rotate_left
      · simp only [Act.put, List.setIfInBounds_toArray, List.set_cons_zero, List.set_cons_succ, i64_w, i32_w]
        rfl
      refine take_ (i := 5) (N := some 96) (v := ?_) (a' := ?_) #[true, true, true, true, true, true, false, false, false, false, false, false] rfl rfl (take_ofW HT_.out HW_.out (by kernel_rfl)) (fun _ _ _ h => h) (Or.inl ⟨by rfl, ?_⟩) hHeld ?_ ?_
      rotate_left
      · rintro w' ⟨s0, s1, s2, s3⟩
        go_simp
        with_reducible rfl
      rotate_left
      · simp only [Act.put, List.setIfInBounds_toArray, List.set_cons_zero, List.set_cons_succ, i64_w, i32_w]
        rfl
      refine take_ (i := 6) (N := some 97) (v := ?_) (a' := ?_) #[true, true, true, true, true, true, true, false, false, false, false, false] rfl rfl (take_ofW HT_.out HW_.out (by kernel_rfl)) (fun _ _ _ h => h) (Or.inl ⟨by rfl, ?_⟩) hHeld ?_ ?_
      rotate_left
      · rintro w' ⟨s0, s1, s2, s3⟩
        go_simp
        with_reducible rfl
      rotate_left
      · simp only [Act.put, List.setIfInBounds_toArray, List.set_cons_zero, List.set_cons_succ, i64_w, i32_w]
        rfl
      refine take_ (i := 8) (N := some 99) (v := ?_) (a' := ?_) #[true, true, true, true, true, true, true, false, true, false, false, false] rfl rfl (take_ofW HT_.out HW_.out (by kernel_rfl)) (fun _ _ _ h => h) (Or.inl ⟨by rfl, ?_⟩) hHeld ?_ ?_
      rotate_left
      · rintro w' ⟨s0, s1, s2, s3⟩
        go_simp
        with_reducible rfl
      rotate_left
      · simp only [Act.put, List.setIfInBounds_toArray, List.set_cons_zero, List.set_cons_succ, i64_w, i32_w]
        rfl
      have hv12 := Kd.R_reads' (Kd.R_below V12.out HWV.out)
      have HM := Aside0.mk (merge_calls A12 c12 f A3 c3 o Z2 hv12.2.2 hv12.2.1 (Kd.C_below (Kd.C_below H3.out HB.out) HWV.out) e3 (rg_of R2.out) (rg_of R3.out) (by omega) (by omega) (fun x hx => Nat.le_trans (X2'.out x hx) (by decide)) (fun x hx => Nat.le_trans (X3'.out x hx) (by decide)))
      clear hv12
      refine one_ (i := 7) (N := some 98) #[true, true, true, true, true, true, true, true, true, false, false, false] rfl rfl (one_of HT_.out (by kernel_rfl)) (by decide) (fun K hK => ?_)
      refine goes_ Try.func40 (by kernel_rfl) rfl #[.agg #[.slice A12 f.length c12], .agg #[.slice A3 o.length c3]] (by rfl) rfl rfl (by (try simp only [List.map_toArray, List.map_cons, List.map_nil]); first | done | rfl) ?_
      refine (HM.out).mono ?_
      rintro e Z3 ⟨v21, rfl, hs21, hb21⟩
      refine ⟨_, rfl, ?_⟩
      replace HWV := Aside0.mk (below_step HWV.out hb21)
      obtain ⟨A21, c21, hv21⟩ := Kd.S_slice hs21
      subst hv21
      have r1 := Kd.S_reads' hs21
      have r9 := Kd.R_reads' (Kd.R_below V9.out HWV.out)
      have HSP := Aside0.mk (portageref0_SameProfile.calls k9 A21 c21 (mergeF f o) A9 c9 (mergeF f o) true Z3 r1.2.2 r1.2.1 r9.2.2 r9.2.1 K9.out)
      clear hs21 hb21 r1 r9 HM
      refine hK.out _ _ (FC.out _ HWV.out) (fun hHeld => ?_)
      clear hK K
      refine norm_ (a' := ?_) ?_ ?_
      rotate_left
      · show Act.put _ (some 98) _ = _
        simp only [Act.put, List.setIfInBounds_toArray, List.set_cons_zero, List.set_cons_succ, i64_w, i32_w]
        rfl
      refine one_ (i := 9) (N := some 100) #[true, true, true, true, true, true, true, true, true, true, false, false] rfl rfl (one_of HT_.out (by kernel_rfl)) (by decide) (fun K hK => ?_)
      refine goes_ Try.func23 (by kernel_rfl) rfl #[.agg #[.slice A21 (mergeF f o).length c21], .agg #[.slice A9 (mergeF f o).length c9]] (by rfl) rfl rfl (by (try simp only [List.map_toArray, List.map_cons, List.map_nil]); first | done | rfl) ?_
      refine (HSP.out).mono ?_
      rintro e Z4 ⟨rfl, hb⟩
      refine ⟨_, rfl, ?_⟩
      replace HWV := Aside0.mk (below_step HWV.out hb)
      clear hb HSP
      refine hK.out _ _ (FC.out _ HWV.out) (fun hHeld => ?_)
      clear hK K
      refine norm_ (a' := ?_) ?_ ?_
      rotate_left
      · show Act.put _ (some 100) _ = _
        simp only [Act.put, List.setIfInBounds_toArray, List.set_cons_zero, List.set_cons_succ, i64_w, i32_w]
        rfl
      refine pure_ (i := 10) (N := some 101) (v := ?_) (a' := ?_) #[true, true, true, true, true, true, true, true, true, true, true, false] rfl rfl (any_of HT_.out (by kernel_rfl)) (fun _ _ _ h => h) (Or.inl ⟨by rfl, ?_⟩) ?_ ?_
      rotate_left
      · intro w'
        go_simp
        with_reducible rfl
      rotate_left
      · simp only [Act.put, List.setIfInBounds_toArray, List.set_cons_zero, List.set_cons_succ, i64_w, i32_w]
        rfl
      refine pure_ (i := 11) (N := some 6) (v := ?_) (a' := ?_) #[true, true, true, true, true, true, true, true, true, true, true, true] rfl rfl (any_of HT_.out (by kernel_rfl)) (fun _ _ _ h => h) (Or.inl ⟨by rfl, ?_⟩) ?_ ?_
      rotate_left
      · intro w'
        go_simp
        with_reducible rfl
      rotate_left
      · simp only [Act.put, List.setIfInBounds_toArray, List.set_cons_zero, List.set_cons_succ, i64_w, i32_w]
        rfl
      refine done_ (done_of HT_.out (by kernel_rfl)) ?_
      go_wp2_with fail
      go_ret
      exact ⟨rfl, below_step HB.out HWV.out⟩
end Go.Proofs.Ytjeaojolhdfpeaa.MemLaw
