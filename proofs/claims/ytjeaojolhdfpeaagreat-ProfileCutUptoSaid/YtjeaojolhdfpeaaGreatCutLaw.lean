/- ProfileCut, walked: function 5. -/
import Derived.Test.YtjeaojolhdfpeaaGreatCutN
import Derived.Test.YtjeaojolhdfpeaaGreatMergeW
import Derived.Test.YtjeaojolhdfpeaaGreatSameZ
namespace Go.Proofs.YtjeaojolhdfpeaaGreat.CutLaw
open Go.RowKit Go.Maps Go.Proofs.YtjeaojolhdfpeaaGreatW.PrintWords Go.Proofs.YtjeaojolhdfpeaaGreatW.PrintLast Go.Proofs.YtjeaojolhdfpeaaGreatW.PrintMore
open Go.Proofs.YtjeaojolhdfpeaaGreat.PProfileCut Go.Proofs.YtjeaojolhdfpeaaGreat.BookB Go.Proofs.YtjeaojolhdfpeaaGreat.BookN Go.Proofs.YtjeaojolhdfpeaaGreat.BookP Go.Proofs.YtjeaojolhdfpeaaGreat.MergeP Go.Proofs.YtjeaojolhdfpeaaGreat.MergeW Go.Proofs.YtjeaojolhdfpeaaGreat.MeetsP Go.Proofs.YtjeaojolhdfpeaaGreat.CutP Go.Proofs.YtjeaojolhdfpeaaGreat.CutB
set_option linter.unusedVariables false
set_option linter.unusedSimpArgs false

theorem pick_ev (a : Int) : ∃ r, portagekit_Pick.f a 2 = some r := by
  unfold portagekit_Pick.f
  rw [if_neg (by decide), if_neg (by decide)]
  split
  · exact ⟨_, rfl⟩
  · exact ⟨_, rfl⟩
theorem merges {A B : Option Addr} {ca cb : Nat} {a b : List (List S51)} {w : World} (ha : Kd.C (Kd.slice 51 k51) w A a.length a) (hca : a.length ≤ ca) (hb : Kd.C (Kd.slice 51 k51) w B b.length b) (hcb : b.length ≤ cb) (qa : QP a) (qb : QP b)
    (la : a.length ≤ 1099511627776) (lb : b.length ≤ 1099511627776) (xa : ∀ x ∈ a, x.length ≤ 1099511627776) (xb : ∀ x ∈ b, x.length ≤ 1099511627776) :
    Calls Tryz.prog 8 #[.agg #[.slice A a.length ca], .agg #[.slice B b.length cb]] w fun e w' => ∃ v, e = .returned (.agg #[v]) ∧ Kd.S kr 53 w' w.heap.size (fun k => w.heap.size ≤ k) v (mergeF a b) ∧ Below w.heap.size w w' :=
  merge_calls A ca a B cb b w ha hca hb hcb qa.i64 qb.i64 (by omega) (by omega) (fun x hx => Nat.le_trans (xa x hx) (by decide)) (fun x hx => Nat.le_trans (xb x hx) (by decide))
def r5_24_T : Bool × List (List Nat × List Nat) := (true, [([], []), ([0], [0]), ([], []), ([1, 2, 1], [1, 2]), ([3, 3], [3]), ([4], [4]), ([5, 4, 4], [4, 5]), ([4], [4]), ([7, 6, 4], [4, 7]), ([6, 8, 8, 4], [4, 6, 8]), ([4], [4]), ([9, 10, 9, 4], [4, 9, 10]), ([4, 11], [4, 11]), ([12, 11], [12]), ([13, 13], [13]), ([13, 14], [13, 14]), ([15, 14, 0, 1, 2, 3, 4, 5, 6, 7, 8, 9, 10, 11, 12, 13, 14, 15], [15])])
def r5_24_B : List Nat := [0, 1, 0, 7, 15, 31, 63, 31, 255, 511, 31, 2047, 4095, 8191, 16383, 32767, 65535]
theorem r5_24_tab : rtab .any (opsOf Tryz.f5 24) = r5_24_T := by kernel_rfl
theorem r5_24_bits : waitsOk r5_24_T.2 r5_24_B = true := by kernel_rfl
set_option maxHeartbeats 16000000 in
set_option maxRecDepth 100000 in
theorem law (A0 A1 A2 A3 : Option Addr) (n0 c0 c1 c2 c3 : Nat) (fs : List S76) (l : List (List S51)) (ns : List Nt) (w : World) (hf : Kd.C k76 w A1 fs.length fs) (hl : Kd.C (Kd.slice 51 k51) w A2 l.length l) (hn : Kd.C kNt w A3 ns.length ns)
    (e1 : fs.length ≤ c1) (e2 : l.length ≤ c2) (e3 : ns.length ≤ c3) (lf : fs.length ≤ 1048576) (tf : tot fs fs.length ≤ 1048576) (rl : RgP l) (nl : ns.length ≤ 1048576) (na : ∀ x ∈ ns, x.args.length < 4398046511104) :
    Calls Tryz.prog 5 #[.agg #[.slice A0 n0 c0, .slice A1 fs.length c1], .agg #[.slice A2 l.length c2], .slice A3 ns.length c3] w fun e w' => e = .returned (.bool true) ∧ Below w.heap.size w w' := by
  obtain ⟨kc, rc, hkc, hrc⟩ := counted_some l (SameZ.row_max hl).1 (SameZ.row_max hl).2
  have HF := Aside0.mk hf
  have HL := Aside0.mk hl
  have HN := Aside0.mk hn
  have TF := Aside0.mk tf
  have NA := Aside0.mk na
  have RL := Aside0.mk rl
  have KC := Aside0.mk hkc
  have RC := Aside0.mk hrc
  clear hf hl hn tf na rl hkc hrc
  go_enter Tryz.func5, Tryz.ntmps5
  go_upto_region 1 with fail
  have HW : Aside0 (Below w.heap.size w ((w.alloc (.cells #[.slice A0 n0 c0, .slice A1 fs.length c1] 33)).alloc (.cells #[.slice A2 l.length c2] 25))) := ⟨below_alloc (below_alloc (Below.refl _ _) _) _⟩
  have B3 : Aside0 (((w.alloc (.cells #[.slice A0 n0 c0, .slice A1 fs.length c1] 33)).alloc (.cells #[.slice A2 l.length c2] 25)).heap[w.heap.size]? = some (.cells #[.slice A0 n0 c0, .slice A1 fs.length c1] 33 (0, 0))) := ⟨blk_alloc (blk_new _ _) _⟩
  have B4 : Aside0 (((w.alloc (.cells #[.slice A0 n0 c0, .slice A1 fs.length c1] 33)).alloc (.cells #[.slice A2 l.length c2] 25)).heap[w.heap.size + 1]? = some (.cells #[.slice A2 l.length c2] 25 (0, 0))) := ⟨by simpa using blk_new (w.alloc (.cells #[.slice A0 n0 c0, .slice A1 fs.length c1] 33)) (.cells #[.slice A2 l.length c2] 25)⟩
  generalize (w.alloc (.cells #[.slice A0 n0 c0, .slice A1 fs.length c1] 33)).alloc (.cells #[.slice A2 l.length c2] 25) = W0 at HW B3 B4 ⊢
  have q0 : W0.cell? ⟨w.heap.size, 0, none⟩ = some (.slice A0 n0 c0) := (blk_cell B3.out 0).trans rfl
  have q1 : W0.cell? ⟨w.heap.size, 1, none⟩ = some (.slice A1 fs.length c1) := (blk_cell B3.out 1).trans rfl
  go_wp2_with fail
  clear q0 q1
  refine (CutN.counts_calls A0 A1 A3 n0 c0 c1 c3 fs ns W0 (Kd.C_below HF.out HW.out) (Kd.C_below HN.out HW.out) e1 e3 lf TF.out nl NA.out).mono ?_
  rintro e W1 ⟨rfl, hb⟩
  replace B3 := Aside0.mk (blk_below B3.out hb)
  replace B4 := Aside0.mk (blk_below B4.out hb)
  replace HW := Aside0.mk (below_step HW.out hb)
  clear hb
  have q2 : W1.cell? ⟨w.heap.size + 1, 0, none⟩ = some (.slice A2 l.length c2) := (blk_cell B4.out 0).trans rfl
  go_wp2_with fail
  clear q2
  refine (portagelaw18_counted.calls kc A2 c2 l rc W1 (Kd.C_below HL.out HW.out) e2 KC.out).mono ?_
  rintro e W2 ⟨rfl, hb⟩
  replace B3 := Aside0.mk (blk_below B3.out hb)
  replace B4 := Aside0.mk (blk_below B4.out hb)
  replace HW := Aside0.mk (below_step HW.out hb)
  clear hb KC
  by_cases hr : rc = false
  · subst hr
    go_wp2_with fail
    refine (FormsS.shown_calls W2).mono ?_
    rintro e Z1 ⟨rfl, hb⟩
    go_wp2_with fail
    go_ret
    exact ⟨rfl, below_step HW.out hb⟩
  obtain rfl : rc = true := by simpa using hr
  have HQ := Aside0.mk (QP_of RL.out (RC.out rfl))
  clear RC hr
  -- the three books
  have q0 : W2.cell? ⟨w.heap.size, 0, none⟩ = some (.slice A0 n0 c0) := (blk_cell B3.out 0).trans rfl
  have q1 : W2.cell? ⟨w.heap.size, 1, none⟩ = some (.slice A1 fs.length c1) := (blk_cell B3.out 1).trans rfl
  have q2 : W2.cell? ⟨w.heap.size + 1, 0, none⟩ = some (.slice A2 l.length c2) := (blk_cell B4.out 0).trans rfl
  go_wp2_with fail
  clear q0 q1 q2
  replace HF := Aside0.mk (Kd.C_below HF.out HW.out)
  replace HL := Aside0.mk (Kd.C_below HL.out HW.out)
  replace HN := Aside0.mk (Kd.C_below HN.out HW.out)
  refine (new_calls A0 c0 n0 A1 c1 fs A2 c2 l W2 HF.out HL.out e2 lf TF.out).mono ?_
  rintro e W3 ⟨qa, Sa, rfl, hBk, hS, hb⟩
  have H1 := Aside0.mk ((BS.nil (bp := fun _ => 0) (S := fun _ _ => False) (F := fun _ => []) (N := fun _ => 0) (Below.refl W2.heap.size W2)).add hb hBk hS)
  have hb3 := Aside0.mk hb
  clear hBk hS hb
  have q0 : W3.cell? ⟨w.heap.size, 0, none⟩ = some (.slice A0 n0 c0) := (blk_cell (blk_below B3.out hb3.out) 0).trans rfl
  have q1 : W3.cell? ⟨w.heap.size, 1, none⟩ = some (.slice A1 fs.length c1) := (blk_cell (blk_below B3.out hb3.out) 1).trans rfl
  have q2 : W3.cell? ⟨w.heap.size + 1, 0, none⟩ = some (.slice A2 l.length c2) := (blk_cell (blk_below B4.out hb3.out) 0).trans rfl
  go_wp2_with fail
  clear q0 q1 q2
  refine (new_calls A0 c0 n0 A1 c1 fs A2 c2 l W3 (Kd.C_below HF.out hb3.out) (Kd.C_below HL.out hb3.out) e2 lf TF.out).mono ?_
  rintro e W4 ⟨qb, Sb, rfl, hBk, hS, hb⟩
  have H2 := Aside0.mk (H1.out.add hb hBk hS)
  have hb4 := Aside0.mk (below_step hb3.out hb)
  clear hBk hS hb H1 hb3
  have q0 : W4.cell? ⟨w.heap.size, 0, none⟩ = some (.slice A0 n0 c0) := (blk_cell (blk_below B3.out hb4.out) 0).trans rfl
  have q1 : W4.cell? ⟨w.heap.size, 1, none⟩ = some (.slice A1 fs.length c1) := (blk_cell (blk_below B3.out hb4.out) 1).trans rfl
  go_wp2_with fail
  clear q0 q1
  refine (new_calls A0 c0 n0 A1 c1 fs none 0 [] W4 (Kd.C_below HF.out hb4.out) (Kd.C_nil _ _) (Nat.le_refl _) lf TF.out).mono ?_
  rintro e W5 ⟨qc, Sc, rfl, hBk, hS, hb⟩
  have H3 := H2.out.add hb hBk hS
  clear hBk hS hb H2 hb4
  obtain ⟨F0, hF0⟩ : ∃ F0, F0 = newF fs l fs.length := ⟨_, rfl⟩
  have HQ0 : Aside0 (QP F0) := ⟨by rw [hF0]; exact new_Q fs HQ.out⟩
  have HB0 : Aside0 (InvB F0 F0 (newF fs [] fs.length) []) := ⟨by rw [hF0]; exact InvB.start fs HQ.out⟩
  obtain ⟨bp, S, F, N, hBS, rfl, rfl, rfl, f0, f1, f2, n0', n1', n2'⟩ : ∃ bp S F N, BS W2 W5 bp S F N 3 ∧ bp 0 = qa ∧ bp 1 = qb ∧ bp 2 = qc ∧ F 0 = F0 ∧ F 1 = F0 ∧ F 2 = newF fs [] fs.length ∧ N 0 ≤ 1048576 ∧ N 1 ≤ 1048576 ∧ N 2 ≤ 1048576 :=
    ⟨_, _, _, _, H3, by simp [upd], by simp [upd], by simp [upd], by simp [upd, hF0], by simp [upd, hF0], by simp [upd], by simp [upd]; exact TF.out, by simp [upd]; exact TF.out, by simp [upd]; exact TF.out⟩
  have HB : Aside0 (∃ S F N, BS W2 W5 bp S F N 3 ∧ InvA F0 (F 0) (ns.take 0) ∧ F 1 = F0 ∧ F 2 = newF fs [] fs.length ∧ N 0 ≤ 1048576 + 0 ∧ N 1 ≤ 1048576 ∧ N 2 ≤ 1048576) := ⟨⟨S, F, N, hBS, by rw [f0]; exact InvA.start HQ0.out, f1, f2, n0', n1', n2'⟩⟩
  clear H3 hF0 hBS f0 f1 f2 n0' n1' n2' S F N HQ
  go_wp2_with fail
  go_loopw [10] (fun i wr => ∃ k : Nat, k ≤ ns.length ∧ i = .int .i64 k ∧ Aside0 (∃ S F N, BS W2 wr bp S F N 3 ∧ InvA F0 (F 0) (ns.take k) ∧ F 1 = F0 ∧ F 2 = newF fs [] fs.length ∧ N 0 ≤ 1048576 + k ∧ N 1 ≤ 1048576 ∧ N 2 ≤ 1048576)) (fun i _ => ns.length - (intOf i).toNat)
  case atStart => exact ⟨0, Nat.zero_le _, rfl, HB⟩
  case round =>
    clear HB
    obtain ⟨k, hk, rfl, HB⟩ := hrel
    by_cases hlt : k < ns.length
    · obtain ⟨S, F, N, hBS, hInv, f1, f2, n0', n1', n2'⟩ := HB.out
      obtain ⟨ad, A7, c7, e0, h0, h1, h2, h3, h4, h5, e7, h7⟩ := at_Nt HN.out (k : Int) (by omega) (by omega)
      have hna := NA.out _ (rd_mem hlt)
      have HR := Aside0.mk (take_snoc ns hlt)
      simp only [Int.toNat_natCast] at h0 h1 h2 h3 h4 h5
      obtain ⟨n, hn⟩ : ∃ n, n = rdN ns (k : Int) := ⟨_, rfl⟩
      rw [← hn] at h0 h1 h2 h3 h4 h5 e7 h7 hna HR
      clear hn
      replace h0 := pw_cell_below hBS.below h0
      replace h1 := pw_cell_below hBS.below h1
      replace h2 := pw_cell_below hBS.below h2
      replace h3 := pw_cell_below hBS.below h3
      replace h4 := pw_cell_below hBS.below h4
      replace h5 := pw_cell_below hBS.below h5
      have HT := Aside0.mk (tells hBS (t := 0) (by decide) n h7 e7 hna (by omega) hInv.q)
      have HI := Aside0.mk hInv
      have HM : Aside0 (F 1 = F0 ∧ F 2 = newF fs [] fs.length ∧ N 0 ≤ 1048576 + k ∧ N 1 ≤ 1048576 ∧ N 2 ≤ 1048576) := ⟨⟨f1, f2, n0', n1', n2'⟩⟩
      subst e0
      clear hBS hInv HB h7 f1 f2 n0' n1' n2'
      go_wp2_with fail
      clear h0 h1 h2 h3 h4 h5
      refine HT.out.mono ?_
      rintro e W6 ⟨rfl, S', h2⟩
      have HB2 : Aside0 (∃ S F N, BS W2 W6 bp S F N 3 ∧ InvA F0 (F 0) (ns.take (k + 1)) ∧ F 1 = F0 ∧ F 2 = newF fs [] fs.length ∧ N 0 ≤ 1048576 + (k + 1) ∧ N 1 ≤ 1048576 ∧ N 2 ≤ 1048576) := ⟨⟨_, _, _, h2, by rw [upd_same, HR.out]; exact HI.out.note HQ0.out n, by rw [upd_other _ _ (by decide)]; exact HM.out.1, by rw [upd_other _ _ (by decide)]; exact HM.out.2.1, by rw [upd_same]; have := HM.out.2.2.1; omega, by rw [upd_other _ _ (by decide)]; exact HM.out.2.2.2.1, by rw [upd_other _ _ (by decide)]; exact HM.out.2.2.2.2⟩⟩
      clear h2 HT HI HM HR
      go_wp2_with fail
      go_roundw
      case rel => exact ⟨k + 1, by omega, by go_num, HB2⟩
      case measure => simp [intOf]; omega
    · obtain rfl : k = ns.length := by omega
      obtain ⟨S, F, N, hBS, hInv, f1, f2, n0', n1', n2'⟩ := HB.out
      rw [List.take_length] at hInv
      have HB1 : Aside0 (∃ S F N, BS W2 wr bp S F N 3 ∧ InvA F0 (F 0) ns ∧ InvB F0 (F 1) (F 2) (ns.drop ns.length) ∧ N 0 ≤ 2097152 ∧ N 1 + ns.length ≤ 2097152 ∧ N 2 + ns.length ≤ 2097152) := ⟨⟨S, F, N, hBS, hInv, by rw [List.drop_length, f1, f2]; exact HB0.out, by omega, by omega, by omega⟩⟩
      clear hBS hInv HB f1 f2 n0' n1' n2' S F N
      go_wp2_with fail
      go_loopw [11] (fun i wx => ∃ (k : Nat) (x : Int), k ≤ ns.length ∧ i = .int .i64 x ∧ x + 1 = (k : Int) ∧ Aside0 (∃ S F N, BS W2 wx bp S F N 3 ∧ InvA F0 (F 0) ns ∧ InvB F0 (F 1) (F 2) (ns.drop k) ∧ N 0 ≤ 2097152 ∧ N 1 + k ≤ 2097152 ∧ N 2 + k ≤ 2097152)) (fun i _ => (intOf i + 1).toNat)
      case atStart => exact ⟨ns.length, _, Nat.le_refl _, rfl, by omega, HB1⟩
      case round =>
        clear HB1
        obtain ⟨k, x, hk, rfl, hx, HB⟩ := hrel
        by_cases hx0 : 0 ≤ x
        · obtain ⟨j, rfl⟩ := Int.eq_ofNat_of_zero_le hx0
          obtain rfl : k = j + 1 := by omega
          have hlt : j < ns.length := by omega
          obtain ⟨S, F, N, hBS, hInv, hInB, n0', n1', n2'⟩ := HB.out
          obtain ⟨ad, A7, c7, e0, h0, h1, h2, h3, h4, h5, e7, h7⟩ := at_Nt HN.out (j : Int) (by omega) (by omega)
          have hna := NA.out _ (rd_mem hlt)
          have HR := Aside0.mk (drop_cons ns hlt)
          simp only [Int.toNat_natCast] at h0 h1 h2 h3 h4 h5
          obtain ⟨n, hn⟩ : ∃ n, n = rdN ns (j : Int) := ⟨_, rfl⟩
          rw [← hn] at h0 h1 h2 h3 h4 h5 e7 h7 hna HR
          clear hn
          subst e0
          have HS := Aside0.mk hBS
          have HI := Aside0.mk hInv
          have HJ := Aside0.mk hInB
          have H7 := Aside0.mk h7
          have HM : Aside0 (N 0 ≤ 2097152 ∧ N 1 + (j + 1) ≤ 2097152 ∧ N 2 + (j + 1) ≤ 2097152) := ⟨⟨n0', n1', n2'⟩⟩
          have HC : Aside0 (∀ w' : World, Below W2.heap.size W2 w' → w'.cell? (ad.add (j * 6)) = some (.int .i64 n.on) ∧ w'.cell? ⟨(ad.add (j * 6)).block, (ad.add (j * 6)).off + 1, none⟩ = some (.int .i64 n.fn) ∧ w'.cell? ⟨(ad.add (j * 6)).block, (ad.add (j * 6)).off + 2, none⟩ = some (.int .i64 n.pc) ∧ w'.cell? ⟨(ad.add (j * 6)).block, (ad.add (j * 6)).off + 3, none⟩ = some (.slice A7 n.args.length c7) ∧ w'.cell? ⟨(ad.add (j * 6)).block, (ad.add (j * 6)).off + 4, none⟩ = some (.int .i64 n.callee) ∧ w'.cell? ⟨(ad.add (j * 6)).block, (ad.add (j * 6)).off + 5, none⟩ = some (.bool n.ask)) := ⟨fun w' hb => ⟨pw_cell_below hb h0, pw_cell_below hb h1, pw_cell_below hb h2, pw_cell_below hb h3, pw_cell_below hb h4, pw_cell_below hb h5⟩⟩
          clear h0 h1 h2 h3 h4 h5 hBS hInv hInB HB h7 n0' n1' n2'
          have q0 := (HC.out wr HS.out.below).1
          obtain ⟨r, hpk⟩ := pick_ev n.on
          have HPK := Aside0.mk hpk
          clear hpk
          go_wp2_with fail
          refine (portagekit_Pick.calls n.on 2 r wr HPK.out).mono ?_
          rintro e W6 ⟨rfl, hd⟩
          replace HS := Aside0.mk (HS.out.next hd.below)
          clear q0 HPK hd
          obtain ⟨g0, g1, g2, g3, g4, g5⟩ := HC.out W6 HS.out.below
          by_cases hr1 : r = 1
          · have hc1 : (r == 1) = true := by simpa using hr1
            have HT := Aside0.mk (tells HS.out (t := 2) (by decide) n H7.out e7 hna (by have := HM.out; omega) HJ.out.qg)
            clear hr1
            go_wp2_with fail
            refine HT.out.mono ?_
            rintro e W7 ⟨rfl, S', h2⟩
            have HB2 : Aside0 (∃ S F N, BS W2 W7 bp S F N 3 ∧ InvA F0 (F 0) ns ∧ InvB F0 (F 1) (F 2) (ns.drop j) ∧ N 0 ≤ 2097152 ∧ N 1 + j ≤ 2097152 ∧ N 2 + j ≤ 2097152) := ⟨⟨_, _, _, h2, by rw [upd_other _ _ (by decide)]; exact HI.out, by rw [upd_other _ _ (by decide), upd_same, HR.out]; exact HJ.out.noteG HQ0.out n, by rw [upd_other _ _ (by decide)]; exact HM.out.1, by rw [upd_other _ _ (by decide)]; have := HM.out; omega, by rw [upd_same]; have := HM.out; omega⟩⟩
            clear h2 HT HS HI HJ HM HR HC g0 g1 g2 g3 g4 g5
            go_wp2_with fail
            go_roundw
            case rel => exact ⟨j, (j : Int) - 1, by omega, by go_num, by omega, HB2⟩
            case measure => simp [intOf]
          · have hc1 : (r == 1) = false := by simpa using hr1
            have HT := Aside0.mk (tells HS.out (t := 1) (by decide) n H7.out e7 hna (by have := HM.out; omega) HJ.out.qf)
            clear hr1
            go_wp2_with fail
            refine HT.out.mono ?_
            rintro e W7 ⟨rfl, S', h2⟩
            have HB2 : Aside0 (∃ S F N, BS W2 W7 bp S F N 3 ∧ InvA F0 (F 0) ns ∧ InvB F0 (F 1) (F 2) (ns.drop j) ∧ N 0 ≤ 2097152 ∧ N 1 + j ≤ 2097152 ∧ N 2 + j ≤ 2097152) := ⟨⟨_, _, _, h2, by rw [upd_other _ _ (by decide)]; exact HI.out, by rw [upd_same, upd_other _ _ (by decide), HR.out]; exact HJ.out.noteF HQ0.out n, by rw [upd_other _ _ (by decide)]; exact HM.out.1, by rw [upd_same]; have := HM.out; omega, by rw [upd_other _ _ (by decide)]; have := HM.out; omega⟩⟩
            clear h2 HT HS HI HJ HM HR HC g0 g1 g2 g3 g4 g5
            go_wp2_with fail
            go_roundw
            case rel => exact ⟨j, (j : Int) - 1, by omega, by go_num, by omega, HB2⟩
            case measure => simp [intOf]
        · obtain rfl : k = 0 := by omega
          obtain rfl : x = -1 := by omega
          obtain ⟨S, F, N, hBS, hInv, hInB, n0', n1', n2'⟩ := HB.out
          rw [List.drop_zero] at hInB
          have HS := Aside0.mk hBS
          have HE1 := Aside0.mk (met hInv hInB)
          have HE2 := Aside0.mk (met2 hInv hInB)
          have Q1 := Aside0.mk hInB.qf
          have Q2 := Aside0.mk hInB.qg
          have L1 := Aside0.mk (bk_lens (hBS.book 1 (by decide)))
          have L2 := Aside0.mk (bk_lens (hBS.book 2 (by decide)))
          clear hBS hInv hInB HB hx0
          have HP := Aside0.mk (profile_calls (bp 1) (N 1) (S 1) (F 1) wr (HS.out.book 1 (by decide)) (by omega))
          go_wp2_with fail
          refine HP.out.mono ?_
          rintro e X1 ⟨v1, rfl, hs, hb⟩
          obtain ⟨Ab, cb, hv⟩ := Kd.S_slice hs
          subst hv
          have R1 := Aside0.mk (Kd.S_reads' hs).2
          replace HS := Aside0.mk (HS.out.next hb)
          clear hs hb HP
          have HP := Aside0.mk (profile_calls (bp 2) (N 2) (S 2) (F 2) X1 (HS.out.book 2 (by decide)) (by omega))
          go_wp2_with fail
          refine HP.out.mono ?_
          rintro e X2 ⟨v2, rfl, hs, hb⟩
          obtain ⟨Ac, cc, hv⟩ := Kd.S_slice hs
          subst hv
          have R2 := Aside0.mk (Kd.S_reads' hs).2
          replace R1 : Aside0 ((F 1).length ≤ cb ∧ Kd.C (Kd.slice 51 k51) X2 Ab (F 1).length (F 1)) := ⟨R1.out.1, Kd.C_below R1.out.2 hb⟩
          replace HS := Aside0.mk (HS.out.next hb)
          clear hs hb HP
          have HP := Aside0.mk (merges R1.out.2 R1.out.1 R2.out.2 R2.out.1 Q1.out Q2.out L1.out.1 L2.out.1 L1.out.2 L2.out.2)
          go_wp2_with fail
          refine HP.out.mono ?_
          rintro e X3 ⟨v3, rfl, hs, hb⟩
          rw [HE1.out] at hs
          obtain ⟨A13, c13, hv⟩ := Kd.S_slice hs
          subst hv
          have bl := below_alloc hb (.cells #[.slice A13 (F 0).length c13] 25)
          have V13 := Aside0.mk (Kd.R_reads' (Kd.R_alloc (Kd.S_R hs) (.cells #[.slice A13 (F 0).length c13] 25))).2
          have B13 := Aside0.mk (blk_new X3 (.cells #[.slice A13 (F 0).length c13] 25))
          replace HS := Aside0.mk (HS.out.next bl)
          clear bl hs hb HP R1 R2
          go_upto_region 24 with fail
          generalize X3.alloc (.cells #[.slice A13 (F 0).length c13] 25) = X4 at HS V13 B13 ⊢
          generalize X3.heap.size = g13 at B13 ⊢
          obtain ⟨ks, hks⟩ := SameZ.same_read V13.out.2
          have KS := Aside0.mk hks
          clear hks
          have HV := Aside0.mk (below_drew (Below.refl X4.heap.size X4))
          replace HS := Aside0.mk (HS.out.next HV.out)
          have FX : Aside0 (∀ w' : World, Below X4.heap.size X4 w' → w'.cell? ⟨g13, 0, none⟩ = some (.slice A13 (F 0).length c13)) := ⟨fun w' hb => (blk_cell (blk_below B13.out hb) 0).trans rfl⟩
          clear B13
          obtain ⟨WY, hWY⟩ : ∃ WY : World, WY = X4 := ⟨_, rfl⟩
          have HVY : Aside0 (Below WY.heap.size WY (World.drew X4)) := ⟨by rw [hWY]; exact HV.out⟩
          clear HV
          rw [← hWY] at FX V13
          clear hWY
          refine start_ (n := 17) (S := fun w' => w'.cell? ⟨g13, 0, none⟩ = some (.slice A13 (F 0).length c13)) (ds := []) #[false, false, false, false, false, false, false, false, false, false, false, false, false, false, false, false, false] (by kernel_rfl) rfl rfl (FX.out _ HVY.out) (fun hHeld => ?_)
          refine with_tabW r5_24_tab r5_24_bits (fun HT_ HW_ => ?_)
          generalize World.drew X4 = Y0 at HVY HS hHeld ⊢
          refine pure_ (i := 0) (N := some 82) (v := ?_) (a' := ?_) #[true, false, false, false, false, false, false, false, false, false, false, false, false, false, false, false, false] rfl rfl (any_of HT_.out (by kernel_rfl)) (fun _ _ _ h => h) (Or.inl ⟨by rfl, ?_⟩) ?_ ?_
          rotate_left
          · intro w'
            go_simp
            with_reducible rfl
          rotate_left
          · simp only [Act.put, List.setIfInBounds_toArray, List.set_cons_zero, List.set_cons_succ, i64_w, i32_w]
            rfl
          refine take_ (i := 2) (N := some 84) (v := ?_) (a' := ?_) #[true, false, true, false, false, false, false, false, false, false, false, false, false, false, false, false, false] rfl rfl (take_ofW HT_.out HW_.out (by kernel_rfl)) (fun _ _ _ h => h) (Or.inl ⟨by rfl, ?_⟩) hHeld ?_ ?_
          rotate_left
          · rintro w' s0
            go_simp
            with_reducible rfl
          rotate_left
          · simp only [Act.put, List.setIfInBounds_toArray, List.set_cons_zero, List.set_cons_succ, i64_w, i32_w]
            rfl
          have HP := Aside0.mk (profile_calls (bp 0) (N 0) (S 0) (F 0) Y0 (HS.out.book 0 (by decide)) (by omega))
          refine one_ (i := 1) (N := some 83) #[true, true, true, false, false, false, false, false, false, false, false, false, false, false, false, false, false] rfl rfl (one_of HT_.out (by kernel_rfl)) (by decide) (fun K hK => ?_)
          refine goes_ Tryz.func15 (by kernel_rfl) rfl #[.pointer (some ⟨bp 0, 0, none⟩)] (by rfl) rfl rfl (by (try simp only [List.map_toArray, List.map_cons, List.map_nil]); first | done | rfl) ?_
          refine (HP.out).mono ?_
          rintro e Y1 ⟨v1, rfl, hs, hb⟩
          refine ⟨_, rfl, ?_⟩
          obtain ⟨Ad, cd, hv⟩ := Kd.S_slice hs
          subst hv
          have R1 := Kd.S_reads' hs
          replace HS := Aside0.mk (HS.out.next hb)
          replace HVY := Aside0.mk (below_step HVY.out hb)
          have HSP := Aside0.mk (portageref0_SameProfile.calls ks Ad cd (F 0) A13 c13 (F 0) true Y1 R1.2.2 R1.2.1 (Kd.C_below V13.out.2 HVY.out) V13.out.1 KS.out)
          clear hs hb HP R1
          refine hK.out _ _ (FX.out _ HVY.out) (fun hHeld => ?_)
          clear hK K
          refine norm_ (a' := ?_) ?_ ?_
          rotate_left
          · show Act.put _ (some 83) _ = _
            simp only [Act.put, List.setIfInBounds_toArray, List.set_cons_zero, List.set_cons_succ, i64_w, i32_w]
            rfl
          refine one_ (i := 3) (N := some 85) #[true, true, true, true, false, false, false, false, false, false, false, false, false, false, false, false, false] rfl rfl (one_of HT_.out (by kernel_rfl)) (by decide) (fun K hK => ?_)
          refine goes_ Tryz.func9 (by kernel_rfl) rfl #[.agg #[.slice Ad (F 0).length cd], .agg #[.slice A13 (F 0).length c13]] (by rfl) rfl rfl (by (try simp only [List.map_toArray, List.map_cons, List.map_nil]); first | done | rfl) ?_
          refine (HSP.out).mono ?_
          rintro e Y2 ⟨rfl, hb⟩
          refine ⟨_, rfl, ?_⟩
          replace HS := Aside0.mk (HS.out.next hb)
          replace HVY := Aside0.mk (below_step HVY.out hb)
          clear hb HSP
          refine hK.out _ _ (FX.out _ HVY.out) (fun hHeld => ?_)
          clear hK K
          refine norm_ (a' := ?_) ?_ ?_
          rotate_left
          · show Act.put _ (some 85) _ = _
            simp only [Act.put, List.setIfInBounds_toArray, List.set_cons_zero, List.set_cons_succ, i64_w, i32_w]
            rfl
          refine pure_ (i := 4) (N := some 86) (v := ?_) (a' := ?_) #[true, true, true, true, true, false, false, false, false, false, false, false, false, false, false, false, false] rfl rfl (any_of HT_.out (by kernel_rfl)) (fun _ _ _ h => h) (Or.inl ⟨by rfl, ?_⟩) ?_ ?_
          rotate_left
          · intro w'
            go_simp
            with_reducible rfl
          rotate_left
          · simp only [Act.put, List.setIfInBounds_toArray, List.set_cons_zero, List.set_cons_succ, i64_w, i32_w]
            rfl
          refine pure_ (i := 5) (N := some 87) (v := ?_) (a' := ?_) #[true, true, true, true, true, true, false, false, false, false, false, false, false, false, false, false, false] rfl rfl (any_of HT_.out (by kernel_rfl)) (fun _ _ _ h => h) (Or.inl ⟨by rfl, ?_⟩) ?_ ?_
          rotate_left
          · intro w'
            go_simp
            with_reducible rfl
          rotate_left
          · simp only [Act.put, List.setIfInBounds_toArray, List.set_cons_zero, List.set_cons_succ, i64_w, i32_w]
            rfl
          refine pure_ (i := 7) (N := some 89) (v := ?_) (a' := ?_) #[true, true, true, true, true, true, false, true, false, false, false, false, false, false, false, false, false] rfl rfl (any_of HT_.out (by kernel_rfl)) (fun _ _ _ h => h) (Or.inl ⟨by rfl, ?_⟩) ?_ ?_
          rotate_left
          · intro w'
            go_simp
            with_reducible rfl
          rotate_left
          · simp only [Act.put, List.setIfInBounds_toArray, List.set_cons_zero, List.set_cons_succ, i64_w, i32_w]
            rfl
          refine take_ (i := 10) (N := some 92) (v := ?_) (a' := ?_) #[true, true, true, true, true, true, false, true, false, false, true, false, false, false, false, false, false] rfl rfl (take_ofW HT_.out HW_.out (by kernel_rfl)) (fun _ _ _ h => h) (Or.inl ⟨by rfl, ?_⟩) hHeld ?_ ?_
          rotate_left
          · rintro w' s0
            go_simp
            with_reducible rfl
          rotate_left
          · simp only [Act.put, List.setIfInBounds_toArray, List.set_cons_zero, List.set_cons_succ, i64_w, i32_w]
            rfl
          have HP := Aside0.mk (profile_calls (bp 2) (N 2) (S 2) (F 2) Y2 (HS.out.book 2 (by decide)) (by omega))
          refine one_ (i := 6) (N := some 88) #[true, true, true, true, true, true, true, true, false, false, true, false, false, false, false, false, false] rfl rfl (one_of HT_.out (by kernel_rfl)) (by decide) (fun K hK => ?_)
          refine goes_ Tryz.func15 (by kernel_rfl) rfl #[.pointer (some ⟨bp 2, 0, none⟩)] (by rfl) rfl rfl (by (try simp only [List.map_toArray, List.map_cons, List.map_nil]); first | done | rfl) ?_
          refine (HP.out).mono ?_
          rintro e Y3 ⟨v2, rfl, hs, hb⟩
          refine ⟨_, rfl, ?_⟩
          obtain ⟨Ae, ce, hv⟩ := Kd.S_slice hs
          subst hv
          have R2 := Aside0.mk (Kd.S_reads' hs).2
          replace HS := Aside0.mk (HS.out.next hb)
          replace HVY := Aside0.mk (below_step HVY.out hb)
          clear hs hb HP
          refine hK.out _ _ (FX.out _ HVY.out) (fun hHeld => ?_)
          clear hK K
          refine norm_ (a' := ?_) ?_ ?_
          rotate_left
          · show Act.put _ (some 88) _ = _
            simp only [Act.put, List.setIfInBounds_toArray, List.set_cons_zero, List.set_cons_succ, i64_w, i32_w]
            rfl
          have HP := Aside0.mk (profile_calls (bp 1) (N 1) (S 1) (F 1) Y3 (HS.out.book 1 (by decide)) (by omega))
          refine one_ (i := 8) (N := some 90) #[true, true, true, true, true, true, true, true, true, false, true, false, false, false, false, false, false] rfl rfl (one_of HT_.out (by kernel_rfl)) (by decide) (fun K hK => ?_)
          refine goes_ Tryz.func15 (by kernel_rfl) rfl #[.pointer (some ⟨bp 1, 0, none⟩)] (by rfl) rfl rfl (by (try simp only [List.map_toArray, List.map_cons, List.map_nil]); first | done | rfl) ?_
          refine (HP.out).mono ?_
          rintro e Y4 ⟨v4, rfl, hs, hb⟩
          refine ⟨_, rfl, ?_⟩
          obtain ⟨Ag, cg, hv⟩ := Kd.S_slice hs
          subst hv
          have R1 := Aside0.mk (Kd.S_reads' hs).2
          replace R2 : Aside0 ((F 2).length ≤ ce ∧ Kd.C (Kd.slice 51 k51) Y4 Ae (F 2).length (F 2)) := ⟨R2.out.1, Kd.C_below R2.out.2 hb⟩
          replace HS := Aside0.mk (HS.out.next hb)
          replace HVY := Aside0.mk (below_step HVY.out hb)
          clear hs hb HP
          refine hK.out _ _ (FX.out _ HVY.out) (fun hHeld => ?_)
          clear hK K
          refine norm_ (a' := ?_) ?_ ?_
          rotate_left
          · show Act.put _ (some 90) _ = _
            simp only [Act.put, List.setIfInBounds_toArray, List.set_cons_zero, List.set_cons_succ, i64_w, i32_w]
            rfl
          have HP := Aside0.mk (merges R2.out.2 R2.out.1 R1.out.2 R1.out.1 Q2.out Q1.out L2.out.1 L1.out.1 L2.out.2 L1.out.2)
          refine one_ (i := 9) (N := some 91) #[true, true, true, true, true, true, true, true, true, true, true, false, false, false, false, false, false] rfl rfl (one_of HT_.out (by kernel_rfl)) (by decide) (fun K hK => ?_)
          refine goes_ Tryz.func8 (by kernel_rfl) rfl #[.agg #[.slice Ae (F 2).length ce], .agg #[.slice Ag (F 1).length cg]] (by rfl) rfl rfl (by (try simp only [List.map_toArray, List.map_cons, List.map_nil]); first | done | rfl) ?_
          refine (HP.out).mono ?_
          rintro e Y5 ⟨v5, rfl, hs, hb⟩
          refine ⟨_, rfl, ?_⟩
          rw [HE2.out] at hs
          obtain ⟨Ah, ch, hv⟩ := Kd.S_slice hs
          subst hv
          have R3 := Kd.S_reads' hs
          replace HS := Aside0.mk (HS.out.next hb)
          replace HVY := Aside0.mk (below_step HVY.out hb)
          have HSP := Aside0.mk (portageref0_SameProfile.calls ks Ah ch (F 0) A13 c13 (F 0) true Y5 R3.2.2 R3.2.1 (Kd.C_below V13.out.2 HVY.out) V13.out.1 KS.out)
          clear hs hb HP R1 R2 R3
          refine hK.out _ _ (FX.out _ HVY.out) (fun hHeld => ?_)
          clear hK K
          refine norm_ (a' := ?_) ?_ ?_
          rotate_left
          · show Act.put _ (some 91) _ = _
            simp only [Act.put, List.setIfInBounds_toArray, List.set_cons_zero, List.set_cons_succ, i64_w, i32_w]
            rfl
          refine one_ (i := 11) (N := some 93) #[true, true, true, true, true, true, true, true, true, true, true, true, false, false, false, false, false] rfl rfl (one_of HT_.out (by kernel_rfl)) (by decide) (fun K hK => ?_)
          refine goes_ Tryz.func9 (by kernel_rfl) rfl #[.agg #[.slice Ah (F 0).length ch], .agg #[.slice A13 (F 0).length c13]] (by rfl) rfl rfl (by (try simp only [List.map_toArray, List.map_cons, List.map_nil]); first | done | rfl) ?_
          refine (HSP.out).mono ?_
          rintro e Y6 ⟨rfl, hb⟩
          refine ⟨_, rfl, ?_⟩
          replace HS := Aside0.mk (HS.out.next hb)
          replace HVY := Aside0.mk (below_step HVY.out hb)
          clear hb HSP
          refine hK.out _ _ (FX.out _ HVY.out) (fun hHeld => ?_)
          clear hK K
          refine norm_ (a' := ?_) ?_ ?_
          rotate_left
          · show Act.put _ (some 93) _ = _
            simp only [Act.put, List.setIfInBounds_toArray, List.set_cons_zero, List.set_cons_succ, i64_w, i32_w]
            rfl
          refine pure_ (i := 12) (N := some 94) (v := ?_) (a' := ?_) #[true, true, true, true, true, true, true, true, true, true, true, true, true, false, false, false, false] rfl rfl (any_of HT_.out (by kernel_rfl)) (fun _ _ _ h => h) (Or.inl ⟨by rfl, ?_⟩) ?_ ?_
          rotate_left
          · intro w'
            go_simp
            with_reducible rfl
          rotate_left
          · simp only [Act.put, List.setIfInBounds_toArray, List.set_cons_zero, List.set_cons_succ, i64_w, i32_w]
            rfl
          refine pure_ (i := 13) (N := some 95) (v := ?_) (a' := ?_) #[true, true, true, true, true, true, true, true, true, true, true, true, true, true, false, false, false] rfl rfl (any_of HT_.out (by kernel_rfl)) (fun _ _ _ h => h) (Or.inl ⟨by rfl, ?_⟩) ?_ ?_
          rotate_left
          · intro w'
            go_simp
            with_reducible rfl
          rotate_left
          · simp only [Act.put, List.setIfInBounds_toArray, List.set_cons_zero, List.set_cons_succ, i64_w, i32_w]
            rfl
          refine one_ (i := 14) (N := some 96) #[true, true, true, true, true, true, true, true, true, true, true, true, true, true, true, false, false] rfl rfl (one_of HT_.out (by kernel_rfl)) (by decide) (fun K hK => ?_)
          refine goes_ Tryz.func6 (by kernel_rfl) rfl #[] (by rfl) rfl rfl (by (try simp only [List.map_toArray, List.map_cons, List.map_nil]); first | done | rfl) ?_
          refine (FormsS.shown_calls _).mono ?_
          rintro e Y7 ⟨rfl, hb⟩
          refine ⟨_, rfl, ?_⟩
          replace HS := Aside0.mk (HS.out.next hb)
          replace HVY := Aside0.mk (below_step HVY.out hb)
          clear hb
          refine hK.out _ _ (FX.out _ HVY.out) (fun hHeld => ?_)
          clear hK K
          refine norm_ (a' := ?_) ?_ ?_
          rotate_left
          · show Act.put _ (some 96) _ = _
            simp only [Act.put, List.setIfInBounds_toArray, List.set_cons_zero, List.set_cons_succ, i64_w, i32_w]
            rfl
          refine pure_ (i := 15) (N := some 97) (v := ?_) (a' := ?_) #[true, true, true, true, true, true, true, true, true, true, true, true, true, true, true, true, false] rfl rfl (any_of HT_.out (by kernel_rfl)) (fun _ _ _ h => h) (Or.inl ⟨by rfl, ?_⟩) ?_ ?_
          rotate_left
          · intro w'
            go_simp
            with_reducible rfl
          rotate_left
          · simp only [Act.put, List.setIfInBounds_toArray, List.set_cons_zero, List.set_cons_succ, i64_w, i32_w]
            rfl
          refine pure_ (i := 16) (N := some 6) (v := ?_) (a' := ?_) #[true, true, true, true, true, true, true, true, true, true, true, true, true, true, true, true, true] rfl rfl (any_of HT_.out (by kernel_rfl)) (fun _ _ _ h => h) (Or.inl ⟨by rfl, ?_⟩) ?_ ?_
          rotate_left
          · intro w'
            go_simp
            with_reducible rfl
          rotate_left
          · simp only [Act.put, List.setIfInBounds_toArray, List.set_cons_zero, List.set_cons_succ, i64_w, i32_w]
            rfl
          refine done_ (done_of HT_.out (by kernel_rfl)) ?_
          go_wp2_with fail
          go_ret
          exact ⟨rfl, below_step HW.out HS.out.below⟩
end Go.Proofs.YtjeaojolhdfpeaaGreat.CutLaw
