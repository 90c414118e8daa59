/- ProfileCut's counts (function 11): over nothing, a book's counts are how many notes there were. -/
import Derived.Test.YtjeaojolhdfpeaaGreatShelfP
import Derived.Test.YtjeaojolhdfpeaaGreatFormsS
namespace Go.Proofs.YtjeaojolhdfpeaaGreat.CutN
open Go.RowKit Go.Maps Go.Proofs.YtjeaojolhdfpeaaGreatW.PrintWords Go.Proofs.YtjeaojolhdfpeaaGreatW.PrintLast Go.Proofs.YtjeaojolhdfpeaaGreatW.PrintMore
open Go.Proofs.YtjeaojolhdfpeaaGreat.PProfileCut Go.Proofs.YtjeaojolhdfpeaaGreat.BookB Go.Proofs.YtjeaojolhdfpeaaGreat.BookN Go.Proofs.YtjeaojolhdfpeaaGreat.BookP Go.Proofs.YtjeaojolhdfpeaaGreat.MergeP Go.Proofs.YtjeaojolhdfpeaaGreat.MeetsP Go.Proofs.YtjeaojolhdfpeaaGreat.CutP Go.Proofs.YtjeaojolhdfpeaaGreat.CutB
set_option linter.unusedVariables false
set_option linter.unusedSimpArgs false
attribute [local go_sem high] eqA51

def r11_15_T : Bool × List (List Nat × List Nat) := (true, [([], []), ([0], [0]), ([], []), ([1, 2], [1, 2]), ([3], [3]), ([4], [4]), ([], []), ([6], [6]), ([], []), ([7, 8], [7, 8]), ([9], [9]), ([10], [10]), ([11], [11]), ([5, 12], [5, 12])])
def r11_15_B : List Nat := [0, 1, 0, 7, 15, 31, 0, 64, 0, 448, 960, 1984, 4032, 8191]
theorem r11_15_tab : rtab .any (opsOf Tryz.f11 15) = r11_15_T := by kernel_rfl
theorem r11_15_bits : waitsOk r11_15_T.2 r11_15_B = true := by kernel_rfl
def r11_26_T : Bool × List (List Nat × List Nat) := (true, [([], []), ([0], [0]), ([], []), ([1, 2], [1, 2]), ([3], [3]), ([], []), ([4, 5], [4, 5]), ([6], [6]), ([7], [7]), ([], []), ([8, 9], [8, 9]), ([10], [10]), ([11], [11]), ([11], [11]), ([11], [11]), ([12, 13, 14, 11, 11], [11, 12, 13, 14]), ([11], [11]), ([16, 11], [11, 16]), ([11], [11]), ([17, 18, 11], [11, 17, 18]), ([19, 11], [11, 19]), ([11], [11]), ([20, 21, 11], [11, 20, 21]), ([22, 11], [11, 22]), ([15, 23, 11], [11, 15, 23]), ([11, 24], [11, 24])])
def r11_26_B : List Nat := [0, 1, 0, 7, 15, 0, 63, 127, 255, 0, 1023, 2047, 4095, 4095, 4095, 32767, 4095, 69631, 4095, 462847, 987135, 4095, 4132863, 8327167, 16777215, 33554431]
theorem r11_26_tab : rtab .any (opsOf Tryz.f11 26) = r11_26_T := by kernel_rfl
theorem r11_26_bits : waitsOk r11_26_T.2 r11_26_B = true := by kernel_rfl
set_option maxHeartbeats 16000000 in
set_option maxRecDepth 100000 in
theorem counts_calls (A0 A1 A3 : Option Addr) (n0 c0 c1 c3 : Nat) (fs : List S76) (ns : List Nt) (w : World) (hf : Kd.C k76 w A1 fs.length fs) (hn : Kd.C kNt w A3 ns.length ns) (e1 : fs.length ≤ c1) (e3 : ns.length ≤ c3)
    (lf : fs.length ≤ 1048576) (tf : tot fs fs.length ≤ 1048576) (nl : ns.length ≤ 1048576) (na : ∀ x ∈ ns, x.args.length < 4398046511104) :
    Calls Tryz.prog 11 #[.agg #[.slice A0 n0 c0, .slice A1 fs.length c1], .slice A3 ns.length c3] w fun e w' => e = .returned (.bool true) ∧ Below w.heap.size w w' := by
  have HF := Aside0.mk hf
  have HN := Aside0.mk hn
  have TF := Aside0.mk tf
  have NA := Aside0.mk na
  clear hf hn tf na
  go_enter Tryz.func11, Tryz.ntmps11
  go_upto_region 1 with fail
  have HW : Aside0 (Below w.heap.size w (w.alloc (.cells #[.slice A0 n0 c0, .slice A1 fs.length c1] 33))) := ⟨below_alloc (Below.refl _ _) _⟩
  have B2 : Aside0 ((w.alloc (.cells #[.slice A0 n0 c0, .slice A1 fs.length c1] 33)).heap[w.heap.size]? = some (.cells #[.slice A0 n0 c0, .slice A1 fs.length c1] 33 (0, 0))) := ⟨blk_new _ _⟩
  generalize w.alloc (.cells #[.slice A0 n0 c0, .slice A1 fs.length c1] 33) = W0 at HW B2 ⊢
  have q0 : W0.cell? ⟨w.heap.size, 0, none⟩ = some (.slice A0 n0 c0) := (blk_cell B2.out 0).trans rfl
  have q1 : W0.cell? ⟨w.heap.size, 1, none⟩ = some (.slice A1 fs.length c1) := (blk_cell B2.out 1).trans rfl
  go_wp2_with fail
  clear q0 q1
  replace HF := Aside0.mk (Kd.C_below HF.out HW.out)
  replace HN := Aside0.mk (Kd.C_below HN.out HW.out)
  refine (new_calls A0 c0 n0 A1 c1 fs none 0 [] W0 HF.out (Kd.C_nil _ _) (Nat.le_refl _) lf TF.out).mono ?_
  rintro e W1 ⟨q, S0, rfl, hBk, hS, hb⟩
  obtain ⟨bp, rfl⟩ : ∃ bp : Nat → Nat, bp 0 = q := ⟨fun _ => q, rfl⟩
  have HB : Aside0 (∃ S F N, BS W0 W1 bp S F N 1 ∧ InvA (newF fs [] fs.length) (F 0) (ns.take 0) ∧ N 0 ≤ 1048576 + 0) := ⟨by
    have h := (BS.nil (bp := bp) (S := fun _ _ => False) (F := fun _ => []) (N := fun _ => 0) (Below.refl W0.heap.size W0)).add hb hBk hS
    have hbp : upd bp 0 (bp 0) = bp := by
      funext u
      unfold upd
      split
      · rename_i e
        rw [e]
      · rfl
    rw [hbp] at h
    refine ⟨_, _, _, h, ?_, ?_⟩
    · rw [upd_same]
      exact InvA.start (new_Q fs Q_nil)
    · rw [upd_same]
      have := TF.out
      omega⟩
  clear hBk hS hb
  go_wp2_with fail
  go_loopw [6] (fun i wr => ∃ k : Nat, k ≤ ns.length ∧ i = .int .i64 k ∧ Aside0 (∃ S F N, BS W0 wr bp S F N 1 ∧ InvA (newF fs [] fs.length) (F 0) (ns.take k) ∧ N 0 ≤ 1048576 + k)) (fun i _ => ns.length - (intOf i).toNat)
  case atStart => exact ⟨0, Nat.zero_le _, rfl, HB⟩
  case round =>
    clear HB
    obtain ⟨k, hk, rfl, HB⟩ := hrel
    by_cases hlt : k < ns.length
    · obtain ⟨S, F, N, hBS, hInv, hNN⟩ := HB.out
      have HS := Aside0.mk hBS
      have HI := Aside0.mk hInv
      have HM := Aside0.mk hNN
      obtain ⟨ad, A7, c7, e0, h0, h1, h2, h3, h4, h5, e7, h7⟩ := at_Nt HN.out (k : Int) (by omega) (by omega)
      have hna := NA.out _ (rd_mem hlt)
      have HR := Aside0.mk (take_snoc ns hlt)
      simp only [Int.toNat_natCast] at h0 h1 h2 h3 h4 h5
      obtain ⟨n, hn⟩ : ∃ n, n = rdN ns (k : Int) := ⟨_, rfl⟩
      rw [← hn] at h0 h1 h2 h3 h4 h5 e7 h7 hna HR
      clear hn
      replace h0 := pw_cell_below hBS.below h0
      replace h1 := pw_cell_below hBS.below h1
      replace h2 := pw_cell_below hBS.below h2
      replace h3 := pw_cell_below hBS.below h3
      replace h4 := pw_cell_below hBS.below h4
      replace h5 := pw_cell_below hBS.below h5
      have HT := Aside0.mk (tells hBS (t := 0) (by decide) n h7 e7 hna (by omega) hInv.q)
      subst e0
      clear hBS hInv hNN HB h7
      go_wp2_with fail
      clear h0 h1 h2 h3 h4 h5
      refine HT.out.mono ?_
      rintro e W2 ⟨rfl, S', h2⟩
      have HB2 : Aside0 (∃ S F N, BS W0 W2 bp S F N 1 ∧ InvA (newF fs [] fs.length) (F 0) (ns.take (k + 1)) ∧ N 0 ≤ 1048576 + (k + 1)) := ⟨⟨_, _, _, h2, by rw [upd_same, HR.out]; exact HI.out.note (new_Q fs Q_nil) n, by rw [upd_same]; have := HM.out; omega⟩⟩
      clear h2 HT HS HI HM HR
      go_wp2_with fail
      go_roundw
      case rel => exact ⟨k + 1, by omega, by go_num, HB2⟩
      case measure => simp [intOf]; omega
    · obtain rfl : k = ns.length := by omega
      obtain ⟨S, F, N, hBS, hInv, hNN⟩ := HB.out
      rw [List.take_length] at hInv
      obtain ⟨G, hG⟩ : ∃ G, G = F 0 := ⟨_, rfl⟩
      rw [← hG] at hInv
      have HI := Aside0.mk hInv
      have HWR := Aside0.mk hBS.below
      have HP := Aside0.mk (profile_calls (bp 0) (N 0) (S 0) G wr (by rw [hG]; exact hBS.book 0 (by decide)) (by omega))
      have HGL : Aside0 (G.length = fs.length) := ⟨by rw [hInv.shape.1, newF_len]⟩
      have HGR : Aside0 (∀ i, i < fs.length → (rw_ G i).length = cl fs i) := ⟨fun i hi => by rw [hInv.shape.2, new_row fs [] i hi]⟩
      have HGC : Aside0 (∀ i j, i < fs.length → j < cl fs i → (gt G i j).f0 = (cnt ns i j : Int)) := ⟨fun i j hi hj => counted_new fs hInv nl ⟨by rw [newF_len]; exact hi, by rw [new_row fs [] i hi]; exact hj⟩⟩
      clear hBS hInv hNN HB hG F S N HI
      go_wp2_with fail
      refine HP.out.mono ?_
      rintro e W2 ⟨v7, rfl, hs7, hb7⟩
      obtain ⟨A7, c7, hv7⟩ := Kd.S_slice hs7
      subst hv7
      rw [HGL.out] at hs7 ⊢
      have bl := below_alloc hb7 (.cells #[.slice A7 fs.length c7] 25)
      have V7 := Aside0.mk (Kd.R_reads' (Kd.R_alloc (Kd.S_R hs7) (.cells #[.slice A7 fs.length c7] 25))).2
      have B7 := Aside0.mk (blk_new W2 (.cells #[.slice A7 fs.length c7] 25))
      replace HWR := Aside0.mk (below_step HWR.out bl)
      replace B2 := Aside0.mk (blk_below B2.out HWR.out)
      clear hs7 hb7 bl HP
      go_upto_region 10 with fail
      generalize W2.alloc (.cells #[.slice A7 fs.length c7] 25) = WZ at HWR B2 B7 V7 ⊢
      generalize W2.heap.size = g7 at B7 ⊢
      replace HF := Aside0.mk (Kd.C_below HF.out HWR.out)
      replace HN := Aside0.mk (Kd.C_below HN.out HWR.out)
      have FX : Aside0 (∀ w' : World, Below WZ.heap.size WZ w' → w'.cell? ⟨g7, 0, none⟩ = some (.slice A7 fs.length c7) ∧ w'.cell? ⟨w.heap.size, 1, none⟩ = some (.slice A1 fs.length c1)) := ⟨fun w' hb => ⟨(blk_cell (blk_below B7.out hb) 0).trans rfl, (blk_cell (blk_below B2.out hb) 1).trans rfl⟩⟩
      obtain ⟨WY, hWY⟩ : ∃ WY : World, WY = WZ := ⟨_, rfl⟩
      rw [← hWY] at FX HF HN V7 HWR B2 B7
      have HVZ : Aside0 (Below WY.heap.size WY WZ) := ⟨by rw [← hWY]; exact Below.refl _ _⟩
      clear hWY
      have q7 : WZ.cell? ⟨g7, 0, none⟩ = some (.slice A7 fs.length c7) := (FX.out _ HVZ.out).1
      have q2 : WZ.cell? ⟨w.heap.size, 1, none⟩ = some (.slice A1 fs.length c1) := (FX.out _ HVZ.out).2
      go_wp2_with fail
      clear q7 q2
      go_loopw [8] (fun i wx => ∃ k : Nat, k ≤ fs.length ∧ i = .int .i64 k ∧ Aside0 (Below WY.heap.size WY wx)) (fun i _ => fs.length - (intOf i).toNat)
      case atStart => exact ⟨0, Nat.zero_le _, rfl, HVZ⟩
      case round =>
        clear HVZ
        obtain ⟨k, hk, rfl, HV⟩ := hrel
        by_cases hlt : k < fs.length
        · obtain ⟨ad, Ar, cr, e7, hcr, hlr, hCr⟩ := at_L3 V7.out.2 (k : Int) (by omega) (by have := HGL.out; omega)
          obtain ⟨af, A5, c5, A6, c6, e1', _, _, _, h3, _⟩ := at_T76 HF.out (k : Int) (by omega) (by omega)
          simp only [Int.toNat_natCast] at hcr h3
          have hrow : rd_L3 G (k : Int) = rw_ G k := rfl
          rw [hrow, HGR.out k hlt] at hcr hlr hCr
          replace h3 : WY.cell? ⟨(af.add (k * 5)).block, (af.add (k * 5)).off + 3, none⟩ = some (.slice A5 (cl fs k) c5) := h3
          subst e7 e1'
          have FR : Aside0 (∀ w' : World, Below WY.heap.size WY w' → w'.cell? ⟨g7, 0, none⟩ = some (.slice (some ad) fs.length c7) ∧ w'.cell? (ad.add k) = some (.slice Ar (cl fs k) cr) ∧ w'.cell? ⟨w.heap.size, 1, none⟩ = some (.slice (some af) fs.length c1) ∧ w'.cell? ⟨(af.add (k * 5)).block, (af.add (k * 5)).off + 3, none⟩ = some (.slice A5 (cl fs k) c5)) := ⟨fun w' hb => ⟨(FX.out w' hb).1, pw_cell_below hb hcr, (FX.out w' hb).2, pw_cell_below hb h3⟩⟩
          have HCR := Aside0.mk hCr
          clear hcr h3 hlr hCr hrow
          have q2 := (FR.out _ HV.out).2.2.1
          have hk0 : (0 : Int) ≤ (k : Int) := by omega
          have hk1 : (k : Int) < (fs.length : Int) := by omega
          go_upto_region 15 with fail
          clear q2
          replace HV := Aside0.mk (below_step HV.out (below_drew (Below.refl _ wr)))
          refine start_ (n := 14) (S := fun w' => w'.cell? ⟨g7, 0, none⟩ = some (.slice (some ad) fs.length c7) ∧ w'.cell? (ad.add k) = some (.slice Ar (cl fs k) cr) ∧ w'.cell? ⟨w.heap.size, 1, none⟩ = some (.slice (some af) fs.length c1) ∧ w'.cell? ⟨(af.add (k * 5)).block, (af.add (k * 5)).off + 3, none⟩ = some (.slice A5 (cl fs k) c5)) (ds := []) #[false, false, false, false, false, false, false, false, false, false, false, false, false, false] (by kernel_rfl) rfl rfl (FR.out _ HV.out) (fun hHeld => ?_)
          refine with_tabW r11_15_tab r11_15_bits (fun HT_ HW_ => ?_)
          generalize World.drew wr = Z0 at HV hHeld ⊢
          refine pure_ (i := 0) (N := some 46) (v := ?_) (a' := ?_) #[true, false, false, false, false, false, false, false, false, false, false, false, false, false] rfl rfl (any_of HT_.out (by kernel_rfl)) (fun _ _ _ h => h) (Or.inl ⟨by rfl, ?_⟩) ?_ ?_
          rotate_left
          · intro w'
            go_simp
            with_reducible rfl
          rotate_left
          · simp only [Act.put, List.setIfInBounds_toArray, List.set_cons_zero, List.set_cons_succ, i64_w, i32_w]
            rfl
          refine take_ (i := 1) (N := some 47) (v := ?_) (a' := ?_) #[true, true, false, false, false, false, false, false, false, false, false, false, false, false] rfl rfl (take_ofW HT_.out HW_.out (by kernel_rfl)) (fun _ _ _ h => h) (Or.inl ⟨by rfl, ?_⟩) hHeld ?_ ?_
          rotate_left
          · rintro w' ⟨s0, s1, s2, s3⟩
            go_simp
            with_reducible rfl
          rotate_left
          · simp only [Act.put, List.setIfInBounds_toArray, List.set_cons_zero, List.set_cons_succ, i64_w, i32_w]
            rfl
          refine pure_ (i := 2) (N := some 48) (v := ?_) (a' := ?_) #[true, true, true, false, false, false, false, false, false, false, false, false, false, false] rfl rfl (any_of HT_.out (by kernel_rfl)) (fun _ _ _ h => h) (Or.inl ⟨by rfl, ?_⟩) ?_ ?_
          rotate_left
          · intro w'
            go_simp
            with_reducible rfl
          rotate_left
          · simp only [Act.put, List.setIfInBounds_toArray, List.set_cons_zero, List.set_cons_succ, i64_w, i32_w]
            rfl
          refine pure_ (i := 3) (N := some 49) (v := ?_) (a' := ?_) #[true, true, true, true, false, false, false, false, false, false, false, false, false, false] rfl rfl (any_of HT_.out (by kernel_rfl)) (fun _ _ _ h => h) (Or.inl ⟨by rfl, ?_⟩) ?_ ?_
          rotate_left
          · intro w'
            go_simp
            with_reducible rfl
          rotate_left
          · simp only [Act.put, List.setIfInBounds_toArray, List.set_cons_zero, List.set_cons_succ, i64_w, i32_w]
            rfl
          refine take_ (i := 4) (N := some 50) (v := ?_) (a' := ?_) #[true, true, true, true, true, false, false, false, false, false, false, false, false, false] rfl rfl (take_ofW HT_.out HW_.out (by kernel_rfl)) (fun _ _ _ h => h) (Or.inl ⟨by rfl, ?_⟩) hHeld ?_ ?_
          rotate_left
          · rintro w' ⟨s0, s1, s2, s3⟩
            go_simp
            with_reducible rfl
          rotate_left
          · simp only [Act.put, List.setIfInBounds_toArray, List.set_cons_zero, List.set_cons_succ, i64_w, i32_w]
            rfl
          refine pure_ (i := 5) (N := some 51) (v := ?_) (a' := ?_) #[true, true, true, true, true, true, false, false, false, false, false, false, false, false] rfl rfl (any_of HT_.out (by kernel_rfl)) (fun _ _ _ h => h) (Or.inl ⟨by rfl, ?_⟩) ?_ ?_
          rotate_left
          · intro w'
            go_simp
            with_reducible rfl
          rotate_left
          · simp only [Act.put, List.setIfInBounds_toArray, List.set_cons_zero, List.set_cons_succ, i64_w, i32_w]
            rfl
          refine pure_ (i := 6) (N := some 52) (v := ?_) (a' := ?_) #[true, true, true, true, true, true, true, false, false, false, false, false, false, false] rfl rfl (any_of HT_.out (by kernel_rfl)) (fun _ _ _ h => h) (Or.inl ⟨by rfl, ?_⟩) ?_ ?_
          rotate_left
          · intro w'
            go_simp
            with_reducible rfl
          rotate_left
          · simp only [Act.put, List.setIfInBounds_toArray, List.set_cons_zero, List.set_cons_succ, i64_w, i32_w]
            rfl
          refine take_ (i := 7) (N := some 53) (v := ?_) (a' := ?_) #[true, true, true, true, true, true, true, true, false, false, false, false, false, false] rfl rfl (take_ofW HT_.out HW_.out (by kernel_rfl)) (fun _ _ _ h => h) (Or.inl ⟨by rfl, ?_⟩) hHeld ?_ ?_
          rotate_left
          · rintro w' ⟨s0, s1, s2, s3⟩
            go_simp
            with_reducible rfl
          rotate_left
          · simp only [Act.put, List.setIfInBounds_toArray, List.set_cons_zero, List.set_cons_succ, i64_w, i32_w]
            rfl
          refine pure_ (i := 8) (N := some 54) (v := ?_) (a' := ?_) #[true, true, true, true, true, true, true, true, true, false, false, false, false, false] rfl rfl (any_of HT_.out (by kernel_rfl)) (fun _ _ _ h => h) (Or.inl ⟨by rfl, ?_⟩) ?_ ?_
          rotate_left
          · intro w'
            go_simp
            with_reducible rfl
          rotate_left
          · simp only [Act.put, List.setIfInBounds_toArray, List.set_cons_zero, List.set_cons_succ, i64_w, i32_w]
            rfl
          refine pure_ (i := 9) (N := some 55) (v := ?_) (a' := ?_) #[true, true, true, true, true, true, true, true, true, true, false, false, false, false] rfl rfl (any_of HT_.out (by kernel_rfl)) (fun _ _ _ h => h) (Or.inl ⟨by rfl, ?_⟩) ?_ ?_
          rotate_left
          · intro w'
            go_simp
            with_reducible rfl
          rotate_left
          · simp only [Act.put, List.setIfInBounds_toArray, List.set_cons_zero, List.set_cons_succ, i64_w, i32_w]
            rfl
          refine pure_ (i := 10) (N := some 56) (v := ?_) (a' := ?_) #[true, true, true, true, true, true, true, true, true, true, true, false, false, false] rfl rfl (any_of HT_.out (by kernel_rfl)) (fun _ _ _ h => h) (Or.inl ⟨by rfl, ?_⟩) ?_ ?_
          rotate_left
          · intro w'
            go_simp
            with_reducible rfl
          rotate_left
          · simp only [Act.put, List.setIfInBounds_toArray, List.set_cons_zero, List.set_cons_succ, i64_w, i32_w]
            rfl
          refine take_ (i := 11) (N := some 57) (v := ?_) (a' := ?_) #[true, true, true, true, true, true, true, true, true, true, true, true, false, false] rfl rfl (take_ofW HT_.out HW_.out (by kernel_rfl)) (fun _ _ _ h => h) (Or.inl ⟨by rfl, ?_⟩) hHeld ?_ ?_
          rotate_left
          · rintro w' ⟨s0, s1, s2, s3⟩
            go_simp
            with_reducible rfl
          rotate_left
          · simp only [Act.put, List.setIfInBounds_toArray, List.set_cons_zero, List.set_cons_succ, i64_w, i32_w]
            rfl
          refine pure_ (i := 12) (N := some 58) (v := ?_) (a' := ?_) #[true, true, true, true, true, true, true, true, true, true, true, true, true, false] rfl rfl (any_of HT_.out (by kernel_rfl)) (fun _ _ _ h => h) (Or.inl ⟨by rfl, ?_⟩) ?_ ?_
          rotate_left
          · intro w'
            go_simp
            with_reducible rfl
          rotate_left
          · simp only [Act.put, List.setIfInBounds_toArray, List.set_cons_zero, List.set_cons_succ, i64_w, i32_w]
            rfl
          refine pure_ (i := 13) (N := some 59) (v := ?_) (a' := ?_) #[true, true, true, true, true, true, true, true, true, true, true, true, true, true] rfl rfl (any_of HT_.out (by kernel_rfl)) (fun _ _ _ h => h) (Or.inl ⟨by rfl, ?_⟩) ?_ ?_
          rotate_left
          · intro w'
            go_simp
            with_reducible rfl
          rotate_left
          · simp only [Act.put, List.setIfInBounds_toArray, List.set_cons_zero, List.set_cons_succ, i64_w, i32_w]
            rfl
          refine done_ (done_of HT_.out (by kernel_rfl)) ?_
          clear hHeld
          go_wp2_with fail
          go_loopw [9] (fun i wx => ∃ m : Nat, m ≤ cl fs k ∧ i = .int .i64 m ∧ Aside0 (Below WY.heap.size WY wx)) (fun i _ => cl fs k - (intOf i).toNat)
          case atStart => exact ⟨0, Nat.zero_le _, rfl, HV⟩
          case round =>
            clear HV
            obtain ⟨m, hm, rfl, HV⟩ := hrel
            have q7 := (FR.out _ HV.out).1
            have qr := (FR.out _ HV.out).2.1
            by_cases hml : m < cl fs k
            · go_wp2_with fail
              clear q7 qr
              go_loopw [10, 11] (fun x i wx => ∃ (a : Nat) (y : Int), a ≤ ns.length ∧ i = .int .i64 a ∧ x = .int .i64 y ∧ Aside0 (y = (cnt (ns.take a) k m : Int)) ∧ Aside0 (Below WY.heap.size WY wx)) (fun _ i _ => ns.length - (intOf i).toNat)
              case atStart => exact ⟨0, 0, Nat.zero_le _, rfl, rfl, ⟨rfl⟩, HV⟩
              case round =>
                clear HV
                obtain ⟨a, y, ha, rfl, rfl, HY, HV⟩ := hrel
                by_cases hal : a < ns.length
                · obtain ⟨an, A9, c9, e0, h0, h1, h2, _⟩ := at_Nt HN.out (a : Int) (by omega) (by omega)
                  have HR := Aside0.mk (take_snoc ns hal)
                  simp only [Int.toNat_natCast] at h1 h2
                  obtain ⟨n, hn⟩ : ∃ n, n = rdN ns (a : Int) := ⟨_, rfl⟩
                  rw [← hn] at h1 h2 HR
                  clear hn h0
                  replace h1 := pw_cell_below HV.out h1
                  replace h2 := pw_cell_below HV.out h2
                  subst e0
                  have hcn : (cnt (ns.take a) k m : Int) ≤ 1048576 := by
                    have h3 := cnt_le (ns.take a) k m
                    rw [List.length_take] at h3
                    omega
                  have hy0 : 0 ≤ y ∧ y ≤ 1048576 := by have := HY.out; omega
                  have hy1 : wrap64 (y + 1) = y + 1 := by unfold wrap64; omega
                  clear hcn
                  by_cases hb1 : n.fn = (k : Int)
                  · by_cases hb2 : n.pc = (m : Int)
                    · have hc1 : (n.fn == (k : Int)) = true := by simpa using hb1
                      have hc2 : (n.pc == (m : Int)) = true := by simpa using hb2
                      have HY2 : Aside0 (y + 1 = (cnt (ns.take (a + 1)) k m : Int)) := ⟨by rw [HR.out, cnt_snoc, if_pos (show here n k m from ⟨hb1, hb2⟩)]; have := HY.out; omega⟩
                      clear hb1 hb2 HY HR
                      go_wp2_with fail
                      go_roundw
                      case rel => exact ⟨a + 1, y + 1, by omega, by go_num, (by first | rfl | go_num | (rw [i64_w, hy1]) | (rw [hy1])), HY2, HV⟩
                      case measure => simp [intOf]; omega
                    · have hc1 : (n.fn == (k : Int)) = true := by simpa using hb1
                      have hc2 : (n.pc == (m : Int)) = false := by simpa using hb2
                      have HY2 : Aside0 (y = (cnt (ns.take (a + 1)) k m : Int)) := ⟨by rw [HR.out, cnt_snoc, if_neg (fun h : here n k m => hb2 h.2)]; exact HY.out⟩
                      clear hb1 hb2 HY HR
                      go_wp2_with fail
                      go_roundw
                      case rel => exact ⟨a + 1, y, by omega, by go_num, rfl, HY2, HV⟩
                      case measure => simp [intOf]; omega
                  · have hc1 : (n.fn == (k : Int)) = false := by simpa using hb1
                    have HY2 : Aside0 (y = (cnt (ns.take (a + 1)) k m : Int)) := ⟨by rw [HR.out, cnt_snoc, if_neg (fun h : here n k m => hb1 h.1)]; exact HY.out⟩
                    clear hb1 HY HR
                    go_wp2_with fail
                    go_roundw
                    case rel => exact ⟨a + 1, y, by omega, by go_num, rfl, HY2, HV⟩
                    case measure => simp [intOf]; omega
                · obtain rfl : a = ns.length := by omega
                  obtain ⟨ar, e8, s0, s1, s2, s3⟩ := at_T51 HCR.out (m : Int) (by omega) (by omega)
                  simp only [Int.toNat_natCast] at s0 s1 s2 s3
                  have hsp : rd_T51 (rw_ G k) (m : Int) = gt G k m := rfl
                  rw [hsp] at s0 s1 s2 s3
                  have HAT := Aside0.mk (at_code G k m)
                  have hy : y = (gt G k m).f0 := by rw [HGC.out k m hlt hml, HY.out, List.take_length]
                  obtain ⟨s, hs⟩ : ∃ s, s = gt G k m := ⟨_, rfl⟩
                  rw [← hs] at s0 s1 s2 s3 HAT hy
                  clear hs hsp HY
                  subst e8
                  subst hy
                  have FS : Aside0 (∀ w' : World, Below WY.heap.size WY w' → w'.cell? ⟨g7, 0, none⟩ = some (.slice (some ad) fs.length c7) ∧ w'.cell? (ad.add k) = some (.slice (some ar) (cl fs k) cr) ∧ w'.cell? (ar.add (m * 4)) = some (.int .i64 s.f0) ∧ w'.cell? ⟨(ar.add (m * 4)).block, (ar.add (m * 4)).off + 1, none⟩ = some (.int .u16 s.f1) ∧ w'.cell? ⟨(ar.add (m * 4)).block, (ar.add (m * 4)).off + 2, none⟩ = some (.int .u16 s.f2) ∧ w'.cell? ⟨(ar.add (m * 4)).block, (ar.add (m * 4)).off + 3, none⟩ = some (.int .i64 s.f3)) := ⟨fun w' hb => ⟨(FR.out w' hb).1, (FR.out w' hb).2.1, pw_cell_below hb s0, pw_cell_below hb s1, pw_cell_below hb s2, pw_cell_below hb s3⟩⟩
                  clear s0 s1 s2 s3
                  have hm0 : (0 : Int) ≤ (m : Int) := by omega
                  have hm1 : (m : Int) < (cl fs k : Int) := by omega
                  have hcl : cl fs k ≤ 1048576 := by
                    have h8 := tot_le fs (show k + 1 ≤ fs.length from hlt)
                    have h9 := TF.out
                    simp only [tot] at h8
                    omega
                  have hwm : Aside0 (wrap64 ((m : Int) + 1) = ((m + 1 : Nat) : Int)) := ⟨by unfold wrap64; omega⟩
                  clear hcl
                  go_upto_region 26 with fail
                  replace HV := Aside0.mk (below_step HV.out (below_drew (Below.refl _ wr)))
                  refine start_ (n := 26) (S := fun w' => w'.cell? ⟨g7, 0, none⟩ = some (.slice (some ad) fs.length c7) ∧ w'.cell? (ad.add k) = some (.slice (some ar) (cl fs k) cr) ∧ w'.cell? (ar.add (m * 4)) = some (.int .i64 s.f0) ∧ w'.cell? ⟨(ar.add (m * 4)).block, (ar.add (m * 4)).off + 1, none⟩ = some (.int .u16 s.f1) ∧ w'.cell? ⟨(ar.add (m * 4)).block, (ar.add (m * 4)).off + 2, none⟩ = some (.int .u16 s.f2) ∧ w'.cell? ⟨(ar.add (m * 4)).block, (ar.add (m * 4)).off + 3, none⟩ = some (.int .i64 s.f3)) (ds := []) #[false, false, false, false, false, false, false, false, false, false, false, false, false, false, false, false, false, false, false, false, false, false, false, false, false, false] (by kernel_rfl) rfl rfl (FS.out _ HV.out) (fun hHeld => ?_)
                  refine with_tabW r11_26_tab r11_26_bits (fun HT_ HW_ => ?_)
                  generalize World.drew wr = Z1 at HV hHeld ⊢
                  refine pure_ (i := 0) (N := some 94) (v := ?_) (a' := ?_) #[true, false, false, false, false, false, false, false, false, false, false, false, false, false, false, false, false, false, false, false, false, false, false, false, false, false] rfl rfl (any_of HT_.out (by kernel_rfl)) (fun _ _ _ h => h) (Or.inl ⟨by rfl, ?_⟩) ?_ ?_
                  rotate_left
                  · intro w'
                    go_simp
                    with_reducible rfl
                  rotate_left
                  · simp only [Act.put, List.setIfInBounds_toArray, List.set_cons_zero, List.set_cons_succ, i64_w, i32_w]
                    rfl
                  refine take_ (i := 1) (N := some 95) (v := ?_) (a' := ?_) #[true, true, false, false, false, false, false, false, false, false, false, false, false, false, false, false, false, false, false, false, false, false, false, false, false, false] rfl rfl (take_ofW HT_.out HW_.out (by kernel_rfl)) (fun _ _ _ h => h) (Or.inl ⟨by rfl, ?_⟩) hHeld ?_ ?_
                  rotate_left
                  · rintro w' ⟨s0, s1, s2, s3, s4, s5⟩
                    go_simp
                    with_reducible rfl
                  rotate_left
                  · simp only [Act.put, List.setIfInBounds_toArray, List.set_cons_zero, List.set_cons_succ, i64_w, i32_w]
                    rfl
                  refine pure_ (i := 2) (N := some 96) (v := ?_) (a' := ?_) #[true, true, true, false, false, false, false, false, false, false, false, false, false, false, false, false, false, false, false, false, false, false, false, false, false, false] rfl rfl (any_of HT_.out (by kernel_rfl)) (fun _ _ _ h => h) (Or.inl ⟨by rfl, ?_⟩) ?_ ?_
                  rotate_left
                  · intro w'
                    go_simp
                    with_reducible rfl
                  rotate_left
                  · simp only [Act.put, List.setIfInBounds_toArray, List.set_cons_zero, List.set_cons_succ, i64_w, i32_w]
                    rfl
                  refine pure_ (i := 3) (N := some 97) (v := ?_) (a' := ?_) #[true, true, true, true, false, false, false, false, false, false, false, false, false, false, false, false, false, false, false, false, false, false, false, false, false, false] rfl rfl (any_of HT_.out (by kernel_rfl)) (fun _ _ _ h => h) (Or.inl ⟨by rfl, ?_⟩) ?_ ?_
                  rotate_left
                  · intro w'
                    go_simp
                    with_reducible rfl
                  rotate_left
                  · simp only [Act.put, List.setIfInBounds_toArray, List.set_cons_zero, List.set_cons_succ, i64_w, i32_w]
                    rfl
                  refine take_ (i := 4) (N := some 98) (v := ?_) (a' := ?_) #[true, true, true, true, true, false, false, false, false, false, false, false, false, false, false, false, false, false, false, false, false, false, false, false, false, false] rfl rfl (take_ofW HT_.out HW_.out (by kernel_rfl)) (fun _ _ _ h => h) (Or.inl ⟨by rfl, ?_⟩) hHeld ?_ ?_
                  rotate_left
                  · rintro w' ⟨s0, s1, s2, s3, s4, s5⟩
                    go_simp
                    with_reducible rfl
                  rotate_left
                  · simp only [Act.put, List.setIfInBounds_toArray, List.set_cons_zero, List.set_cons_succ, i64_w, i32_w]
                    rfl
                  refine pure_ (i := 5) (N := some 99) (v := ?_) (a' := ?_) #[true, true, true, true, true, true, false, false, false, false, false, false, false, false, false, false, false, false, false, false, false, false, false, false, false, false] rfl rfl (any_of HT_.out (by kernel_rfl)) (fun _ _ _ h => h) (Or.inl ⟨by rfl, ?_⟩) ?_ ?_
                  rotate_left
                  · intro w'
                    go_simp
                    with_reducible rfl
                  rotate_left
                  · simp only [Act.put, List.setIfInBounds_toArray, List.set_cons_zero, List.set_cons_succ, i64_w, i32_w]
                    rfl
                  refine pure_ (i := 6) (N := some 100) (v := ?_) (a' := ?_) #[true, true, true, true, true, true, true, false, false, false, false, false, false, false, false, false, false, false, false, false, false, false, false, false, false, false] rfl rfl (any_of HT_.out (by kernel_rfl)) (fun _ _ _ h => h) (Or.inl ⟨by rfl, ?_⟩) ?_ ?_
                  rotate_left
                  · intro w'
                    go_simp
                    with_reducible rfl
                  rotate_left
                  · simp only [Act.put, List.setIfInBounds_toArray, List.set_cons_zero, List.set_cons_succ, i64_w, i32_w]
                    rfl
                  refine pure_ (i := 7) (N := some 101) (v := ?_) (a' := ?_) #[true, true, true, true, true, true, true, true, false, false, false, false, false, false, false, false, false, false, false, false, false, false, false, false, false, false] rfl rfl (any_of HT_.out (by kernel_rfl)) (fun _ _ _ h => h) (Or.inl ⟨by rfl, ?_⟩) ?_ ?_
                  rotate_left
                  · intro w'
                    go_simp
                    with_reducible rfl
                  rotate_left
                  · simp only [Act.put, List.setIfInBounds_toArray, List.set_cons_zero, List.set_cons_succ, i64_w, i32_w]
                    rfl
                  refine take_ (i := 8) (N := some 102) (v := ?_) (a' := ?_) #[true, true, true, true, true, true, true, true, true, false, false, false, false, false, false, false, false, false, false, false, false, false, false, false, false, false] rfl rfl (take_ofW HT_.out HW_.out (by kernel_rfl)) (fun _ _ _ h => h) (Or.inl ⟨by rfl, ?_⟩) hHeld ?_ ?_
                  rotate_left
                  · rintro w' ⟨s0, s1, s2, s3, s4, s5⟩
                    go_simp
                    with_reducible rfl
                  rotate_left
                  · simp only [Act.put, List.setIfInBounds_toArray, List.set_cons_zero, List.set_cons_succ, i64_w, i32_w]
                    rfl
                  refine pure_ (i := 9) (N := some 103) (v := ?_) (a' := ?_) #[true, true, true, true, true, true, true, true, true, true, false, false, false, false, false, false, false, false, false, false, false, false, false, false, false, false] rfl rfl (any_of HT_.out (by kernel_rfl)) (fun _ _ _ h => h) (Or.inl ⟨by rfl, ?_⟩) ?_ ?_
                  rotate_left
                  · intro w'
                    go_simp
                    with_reducible rfl
                  rotate_left
                  · simp only [Act.put, List.setIfInBounds_toArray, List.set_cons_zero, List.set_cons_succ, i64_w, i32_w]
                    rfl
                  refine pure_ (i := 10) (N := some 104) (v := ?_) (a' := ?_) #[true, true, true, true, true, true, true, true, true, true, true, false, false, false, false, false, false, false, false, false, false, false, false, false, false, false] rfl rfl (any_of HT_.out (by kernel_rfl)) (fun _ _ _ h => h) (Or.inl ⟨by rfl, ?_⟩) ?_ ?_
                  rotate_left
                  · intro w'
                    go_simp
                    with_reducible rfl
                  rotate_left
                  · simp only [Act.put, List.setIfInBounds_toArray, List.set_cons_zero, List.set_cons_succ, i64_w, i32_w]
                    rfl
                  refine pure_ (i := 11) (N := some 105) (v := ?_) (a' := ?_) #[true, true, true, true, true, true, true, true, true, true, true, true, false, false, false, false, false, false, false, false, false, false, false, false, false, false] rfl rfl (any_of HT_.out (by kernel_rfl)) (fun _ _ _ h => h) (Or.inl ⟨by rfl, ?_⟩) ?_ ?_
                  rotate_left
                  · intro w'
                    go_simp
                    with_reducible rfl
                  rotate_left
                  · simp only [Act.put, List.setIfInBounds_toArray, List.set_cons_zero, List.set_cons_succ, i64_w, i32_w]
                    rfl
                  refine take_ (i := 12) (N := some 106) (v := ?_) (a' := ?_) #[true, true, true, true, true, true, true, true, true, true, true, true, true, false, false, false, false, false, false, false, false, false, false, false, false, false] rfl rfl (take_ofW HT_.out HW_.out (by kernel_rfl)) (fun _ _ _ h => h) (Or.inl ⟨by rfl, ?_⟩) hHeld ?_ ?_
                  rotate_left
                  · rintro w' ⟨s0, s1, s2, s3, s4, s5⟩
                    go_simp
                    with_reducible rfl
                  rotate_left
                  · simp only [Act.put, List.setIfInBounds_toArray, List.set_cons_zero, List.set_cons_succ, i64_w, i32_w]
                    rfl
                  refine pure_ (i := 13) (N := some 107) (v := ?_) (a' := ?_) #[true, true, true, true, true, true, true, true, true, true, true, true, true, true, false, false, false, false, false, false, false, false, false, false, false, false] rfl rfl (any_of HT_.out (by kernel_rfl)) (fun _ _ _ h => h) (Or.inl ⟨by rfl, ?_⟩) ?_ ?_
                  rotate_left
                  · intro w'
                    go_simp
                    with_reducible rfl
                  rotate_left
                  · simp only [Act.put, List.setIfInBounds_toArray, List.set_cons_zero, List.set_cons_succ, i64_w, i32_w]
                    rfl
                  refine pure_ (i := 14) (N := some 108) (v := ?_) (a' := ?_) #[true, true, true, true, true, true, true, true, true, true, true, true, true, true, true, false, false, false, false, false, false, false, false, false, false, false] rfl rfl (any_of HT_.out (by kernel_rfl)) (fun _ _ _ h => h) (Or.inl ⟨by rfl, ?_⟩) ?_ ?_
                  rotate_left
                  · intro w'
                    go_simp
                    with_reducible rfl
                  rotate_left
                  · simp only [Act.put, List.setIfInBounds_toArray, List.set_cons_zero, List.set_cons_succ, i64_w, i32_w]
                    rfl
                  refine pure_ (i := 16) (N := some 110) (v := ?_) (a' := ?_) #[true, true, true, true, true, true, true, true, true, true, true, true, true, true, true, false, true, false, false, false, false, false, false, false, false, false] rfl rfl (any_of HT_.out (by kernel_rfl)) (fun _ _ _ h => h) (Or.inl ⟨by rfl, ?_⟩) ?_ ?_
                  rotate_left
                  · intro w'
                    go_simp
                    with_reducible rfl
                  rotate_left
                  · simp only [Act.put, List.setIfInBounds_toArray, List.set_cons_zero, List.set_cons_succ, i64_w, i32_w]
                    rfl
                  refine take_ (i := 17) (N := some 111) (v := ?_) (a' := ?_) #[true, true, true, true, true, true, true, true, true, true, true, true, true, true, true, false, true, true, false, false, false, false, false, false, false, false] rfl rfl (take_ofW HT_.out HW_.out (by kernel_rfl)) (fun _ _ _ h => h) (Or.inl ⟨by rfl, ?_⟩) hHeld ?_ ?_
                  rotate_left
                  · rintro w' ⟨s0, s1, s2, s3, s4, s5⟩
                    go_simp
                    with_reducible rfl
                  rotate_left
                  · simp only [Act.put, List.setIfInBounds_toArray, List.set_cons_zero, List.set_cons_succ, i64_w, i32_w]
                    rfl
                  refine pure_ (i := 18) (N := some 112) (v := ?_) (a' := ?_) #[true, true, true, true, true, true, true, true, true, true, true, true, true, true, true, false, true, true, true, false, false, false, false, false, false, false] rfl rfl (any_of HT_.out (by kernel_rfl)) (fun _ _ _ h => h) (Or.inl ⟨by rfl, ?_⟩) ?_ ?_
                  rotate_left
                  · intro w'
                    go_simp
                    with_reducible rfl
                  rotate_left
                  · simp only [Act.put, List.setIfInBounds_toArray, List.set_cons_zero, List.set_cons_succ, i64_w, i32_w]
                    rfl
                  refine pure_ (i := 19) (N := some 113) (v := ?_) (a' := ?_) #[true, true, true, true, true, true, true, true, true, true, true, true, true, true, true, false, true, true, true, true, false, false, false, false, false, false] rfl rfl (any_of HT_.out (by kernel_rfl)) (fun _ _ _ h => h) (Or.inl ⟨by rfl, ?_⟩) ?_ ?_
                  rotate_left
                  · intro w'
                    go_simp
                    with_reducible rfl
                  rotate_left
                  · simp only [Act.put, List.setIfInBounds_toArray, List.set_cons_zero, List.set_cons_succ, i64_w, i32_w]
                    rfl
                  refine take_ (i := 20) (N := some 114) (v := ?_) (a' := ?_) #[true, true, true, true, true, true, true, true, true, true, true, true, true, true, true, false, true, true, true, true, true, false, false, false, false, false] rfl rfl (take_ofW HT_.out HW_.out (by kernel_rfl)) (fun _ _ _ h => h) (Or.inl ⟨by rfl, ?_⟩) hHeld ?_ ?_
                  rotate_left
                  · rintro w' ⟨s0, s1, s2, s3, s4, s5⟩
                    go_simp
                    with_reducible rfl
                  rotate_left
                  · simp only [Act.put, List.setIfInBounds_toArray, List.set_cons_zero, List.set_cons_succ, i64_w, i32_w]
                    rfl
                  refine pure_ (i := 21) (N := some 115) (v := ?_) (a' := ?_) #[true, true, true, true, true, true, true, true, true, true, true, true, true, true, true, false, true, true, true, true, true, true, false, false, false, false] rfl rfl (any_of HT_.out (by kernel_rfl)) (fun _ _ _ h => h) (Or.inl ⟨by rfl, ?_⟩) ?_ ?_
                  rotate_left
                  · intro w'
                    go_simp
                    with_reducible rfl
                  rotate_left
                  · simp only [Act.put, List.setIfInBounds_toArray, List.set_cons_zero, List.set_cons_succ, i64_w, i32_w]
                    rfl
                  refine pure_ (i := 22) (N := some 116) (v := ?_) (a' := ?_) #[true, true, true, true, true, true, true, true, true, true, true, true, true, true, true, false, true, true, true, true, true, true, true, false, false, false] rfl rfl (any_of HT_.out (by kernel_rfl)) (fun _ _ _ h => h) (Or.inl ⟨by rfl, ?_⟩) ?_ ?_
                  rotate_left
                  · intro w'
                    go_simp
                    with_reducible rfl
                  rotate_left
                  · simp only [Act.put, List.setIfInBounds_toArray, List.set_cons_zero, List.set_cons_succ, i64_w, i32_w]
                    rfl
                  refine take_ (i := 23) (N := some 117) (v := ?_) (a' := ?_) #[true, true, true, true, true, true, true, true, true, true, true, true, true, true, true, false, true, true, true, true, true, true, true, true, false, false] rfl rfl (take_ofW HT_.out HW_.out (by kernel_rfl)) (fun _ _ _ h => h) (Or.inl ⟨by rfl, ?_⟩) hHeld ?_ ?_
                  rotate_left
                  · rintro w' ⟨s0, s1, s2, s3, s4, s5⟩
                    go_simp
                    with_reducible rfl
                  rotate_left
                  · simp only [Act.put, List.setIfInBounds_toArray, List.set_cons_zero, List.set_cons_succ, i64_w, i32_w]
                    rfl
                  have HCA := profile_At.calls (some ad) c7 G (k : Int) (m : Int) s.f0 s.f1 s.f2 s.f3 Z1 (Kd.C_below V7.out.2 HV.out) (by have := V7.out.1; have := HGL.out; omega) HAT.out
                  rw [HGL.out] at HCA
                  refine one_ (i := 15) (N := some 109) #[true, true, true, true, true, true, true, true, true, true, true, true, true, true, true, true, true, true, true, true, true, true, true, true, false, false] rfl rfl (one_of HT_.out (by kernel_rfl)) (by decide) (fun K hK => ?_)
                  refine goes_ Tryz.func18 (by kernel_rfl) rfl #[.agg #[.slice (some ad) fs.length c7], .int .i64 (k : Int), .int .i64 (m : Int)] (by rfl) rfl rfl (by (try simp only [List.map_toArray, List.map_cons, List.map_nil]); first | done | rfl) ?_
                  refine (HCA).mono ?_
                  rintro e Z2 ⟨rfl, hb⟩
                  refine ⟨_, rfl, ?_⟩
                  replace HV := Aside0.mk (below_step HV.out hb)
                  clear hb HCA
                  refine hK.out _ _ (FS.out _ HV.out) (fun hHeld => ?_)
                  clear hK K
                  refine norm_ (a' := ?_) ?_ ?_
                  rotate_left
                  · show Act.put _ (some 109) _ = _
                    simp only [Act.put, List.setIfInBounds_toArray, List.set_cons_zero, List.set_cons_succ, i64_w, i32_w]
                    rfl
                  refine pure_ (i := 24) (N := some 118) (v := ?_) (a' := ?_) #[true, true, true, true, true, true, true, true, true, true, true, true, true, true, true, true, true, true, true, true, true, true, true, true, true, false] rfl rfl (any_of HT_.out (by kernel_rfl)) (fun _ _ _ h => h) (Or.inl ⟨by rfl, ?_⟩) ?_ ?_
                  rotate_left
                  · intro w'
                    go_simp
                    with_reducible rfl
                  rotate_left
                  · simp only [Act.put, List.setIfInBounds_toArray, List.set_cons_zero, List.set_cons_succ, i64_w, i32_w]
                    rfl
                  refine pure_ (i := 25) (N := some 119) (v := ?_) (a' := ?_) #[true, true, true, true, true, true, true, true, true, true, true, true, true, true, true, true, true, true, true, true, true, true, true, true, true, true] rfl rfl (any_of HT_.out (by kernel_rfl)) (fun _ _ _ h => h) (Or.inl ⟨by rfl, ?_⟩) ?_ ?_
                  rotate_left
                  · intro w'
                    go_simp
                    with_reducible rfl
                  rotate_left
                  · simp only [Act.put, List.setIfInBounds_toArray, List.set_cons_zero, List.set_cons_succ, i64_w, i32_w]
                    rfl
                  refine done_ (done_of HT_.out (by kernel_rfl)) ?_
                  clear hHeld
                  go_wp2_with fail
                  go_roundw
                  case rel => exact ⟨m + 1, by omega, by rw [hwm.out], HV⟩
                  case measure => rw [hwm.out]; simp [intOf]; omega
            · obtain rfl : m = cl fs k := by omega
              go_wp2_with fail
              go_roundw
              case rel => exact ⟨k + 1, by omega, by go_num, HV⟩
              case measure => simp [intOf]; omega
        · obtain rfl : k = fs.length := by omega
          have q2 := (FX.out _ HV.out).2
          go_wp2_with fail
          refine (FormsS.shown_calls _).mono ?_
          rintro e Z9 ⟨rfl, hb⟩
          go_wp2_with fail
          go_ret
          exact ⟨rfl, below_step HW.out (below_step HWR.out (below_step HV.out hb))⟩
end Go.Proofs.YtjeaojolhdfpeaaGreat.CutN
