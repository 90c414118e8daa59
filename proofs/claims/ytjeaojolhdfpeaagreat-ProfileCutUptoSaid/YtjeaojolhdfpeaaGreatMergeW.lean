/- Merge, walked: function 40. -/
import Derived.Test.YtjeaojolhdfpeaaGreatMergeJ
namespace Go.Proofs.YtjeaojolhdfpeaaGreat.MergeW
open Go.RowKit Go.Maps Go.Proofs.YtjeaojolhdfpeaaGreatW.PrintWords Go.Proofs.YtjeaojolhdfpeaaGreatW.PrintLast Go.Proofs.YtjeaojolhdfpeaaGreatW.PrintMore
open Go.Proofs.YtjeaojolhdfpeaaGreat.PProfileCut Go.Proofs.YtjeaojolhdfpeaaGreat.BookB Go.Proofs.YtjeaojolhdfpeaaGreat.BookP Go.Proofs.YtjeaojolhdfpeaaGreat.MergeP Go.Proofs.YtjeaojolhdfpeaaGreat.MergeJ
set_option linter.unusedVariables false
set_option linter.unusedSimpArgs false
attribute [local go_sem] maxN max_two

def r8_16_T : Bool × List (List Nat × List Nat) := (true, [([], []), ([], []), ([], []), ([0, 1, 2], [0, 1, 2]), ([], []), ([], []), ([], []), ([4, 5, 6, 3], [4, 5, 6]), ([], []), ([], []), ([8, 3, 7, 0, 1, 2, 3, 8, 9], [3, 8]), ([9, 7, 10, 0, 1, 2, 3, 4, 5, 6, 7, 8, 9, 10], [7, 9])])
def r8_16_B : List Nat := [0, 0, 0, 7, 0, 0, 0, 127, 0, 0, 1023, 2047]
theorem r8_16_tab : rtab .any (opsOf Tryz.f8 16) = r8_16_T := by kernel_rfl
theorem r8_16_bits : waitsOk r8_16_T.2 r8_16_B = true := by kernel_rfl
def r8_17_T : Bool × List (List Nat × List Nat) := (true, [([], []), ([], []), ([], []), ([2], [2]), ([], []), ([4], [4]), ([3, 5], [3, 5]), ([], []), ([7], [7]), ([], []), ([9], [9]), ([8, 10], [8, 10]), ([], []), ([12], [12]), ([], []), ([14], [14]), ([13, 15], [13, 15]), ([], []), ([17], [17]), ([], []), ([19], [19]), ([18, 20, 6], [18, 20]), ([6, 11, 16, 21], [6, 11, 16, 21]), ([0, 1, 0, 1, 2, 3, 4, 5, 6, 7, 8, 9, 10, 11, 12, 13, 14, 15, 16, 17, 18, 19, 20, 21, 22], [0, 1]), ([23, 22, 21, 0, 1, 2, 3, 4, 5, 6, 7, 8, 9, 10, 11, 12, 13, 14, 15, 16, 17, 18, 19, 20, 21, 22], [22, 23])])
def r8_17_B : List Nat := [0, 0, 0, 4, 0, 16, 60, 0, 128, 0, 512, 1920, 0, 4096, 0, 16384, 61440, 0, 131072, 0, 524288, 1966204, 4194300, 8388607, 16777215]
theorem r8_17_tab : rtab .any (opsOf Tryz.f8 17) = r8_17_T := by kernel_rfl
theorem r8_17_bits : waitsOk r8_17_T.2 r8_17_B = true := by kernel_rfl
set_option maxHeartbeats 16000000 in
set_option maxRecDepth 100000 in
theorem merge_calls (A : Option Addr) (ca : Nat) (a : List (List S51)) (B : Option Addr) (cb : Nat) (b : List (List S51)) (w : World) (hra : Kd.C (Kd.slice 51 k51) w A a.length a) (hca : a.length ≤ ca) (hrb : Kd.C (Kd.slice 51 k51) w B b.length b) (hcb : b.length ≤ cb)
    (hga : ∀ x ∈ a, ∀ s ∈ x, I64 s.f0) (hgb : ∀ x ∈ b, ∀ s ∈ x, I64 s.f0) (hla : a.length ≤ 5864062014634) (hlb : b.length ≤ 5864062014634) (hxa : ∀ x ∈ a, x.length ≤ 5864062014634) (hxb : ∀ x ∈ b, x.length ≤ 5864062014634) :
    Calls Tryz.prog 8 #[.agg #[.slice A a.length ca], .agg #[.slice B b.length cb]] w fun e w' => ∃ v, e = .returned (.agg #[v]) ∧ Kd.S kr 53 w' w.heap.size (fun k => w.heap.size ≤ k) v (mergeF a b) ∧ Below w.heap.size w w' := by
  have HRA := Aside0.mk hra
  have HRB := Aside0.mk hrb
  have HGA := Aside0.mk (rg64 hga)
  have HGB := Aside0.mk (rg64 hgb)
  have HXA := Aside0.mk (len64 hxa)
  have HXB := Aside0.mk (len64 hxb)
  clear hra hrb hga hgb hxa hxb
  go_enter Tryz.func8, Tryz.ntmps8
  go_upto_region 2 with fail
  have H0 : Aside0 (MS w (.slice A a.length ca) (.slice B b.length cb) (.slice none 0 0) (mpart a b 0) (fun _ => True) ((((w.alloc (.cells #[.slice A a.length ca] 25)).alloc (.cells #[.slice B b.length cb] 25)).alloc (.cells #[.slice none 0 0] 25)).alloc (.cells #[.slice none 0 0] 25))) :=
    ⟨⟨blk_alloc (blk_alloc (blk_alloc (blk_new _ _) _) _) _, blk_alloc (blk_alloc (by simpa using blk_new (w.alloc (.cells #[.slice A a.length ca] 25)) (.cells #[.slice B b.length cb] 25)) _) _,
      blk_alloc (by simpa using blk_new ((w.alloc (.cells #[.slice A a.length ca] 25)).alloc (.cells #[.slice B b.length cb] 25)) (.cells #[.slice none 0 0] 25)) _,
      by simpa using blk_new (((w.alloc (.cells #[.slice A a.length ca] 25)).alloc (.cells #[.slice B b.length cb] 25)).alloc (.cells #[.slice none 0 0] 25)) (.cells #[.slice none 0 0] 25), Kd.S_nil _ _ _ _ _, below_alloc (below_alloc (below_alloc (below_alloc (Below.refl _ _) _) _) _) _⟩⟩
  generalize (((w.alloc (.cells #[.slice A a.length ca] 25)).alloc (.cells #[.slice B b.length cb] 25)).alloc (.cells #[.slice none 0 0] 25)).alloc (.cells #[.slice none 0 0] 25) = W0 at H0 ⊢
  have hc0 : W0.cell? ⟨w.heap.size, 0, none⟩ = some (.slice A a.length ca) := (blk_cell H0.out.ba 0).trans rfl
  have hc1 : W0.cell? ⟨w.heap.size + 1, 0, none⟩ = some (.slice B b.length cb) := (blk_cell H0.out.bb 0).trans rfl
  go_wp2_with fail
  clear hc0 hc1
  obtain ⟨N, hN⟩ : ∃ N : Nat, N = max a.length b.length := ⟨_, rfl⟩
  have hNi : max (a.length : Int) (b.length : Int) = (N : Int) := by omega
  rw [hNi]
  have HN := Aside0.mk hN
  have hN40 : N ≤ 5864062014634 := by omega
  clear hNi hN
  go_loopw [21] (fun i wr => ∃ k : Nat, k ≤ N ∧ i = .int .i64 k ∧ ∃ v, Aside0 (MS w (.slice A a.length ca) (.slice B b.length cb) v (mpart a b k) (fun _ => True) wr)) (fun i _ => N - (intOf i).toNat)
  case atStart => exact ⟨0, by omega, rfl, _, H0⟩
  case round =>
    clear H0
    obtain ⟨k, hk, rfl, v, HI⟩ := hrel
    by_cases hlt : k < N
    · have hc0 : wr.cell? ⟨w.heap.size, 0, none⟩ = some (.slice A a.length ca) := (blk_cell HI.out.ba 0).trans rfl
      have hc1 : wr.cell? ⟨w.heap.size + 1, 0, none⟩ = some (.slice B b.length cb) := (blk_cell HI.out.bb 0).trans rfl
      go_wp2_with fail
      clear hc0 hc1
      have B26 : Aside0 ((wr.alloc (.cells #[.slice A a.length ca, .slice B b.length cb] 25)).heap[wr.heap.size]? = some (.cells #[.slice A a.length ca, .slice B b.length cb] 25 (0, 0))) := ⟨blk_new _ _⟩
      replace HI := Aside0.mk (HI.out.next (below_alloc (Below.refl _ _) (.cells #[.slice A a.length ca, .slice B b.length cb] 25)))
      generalize wr.alloc (.cells #[.slice A a.length ca, .slice B b.length cb] 25) = W1 at HI B26 ⊢
      generalize wr.heap.size = g at B26 ⊢
      go_loopw [7, 28] (fun n m wr => ∃ j : Nat, j ≤ 2 ∧ m = .int .i64 j ∧ n = .int .i64 (nAt a b k j) ∧ Aside0 (MS w (.slice A a.length ca) (.slice B b.length cb) v (mpart a b k) (fun _ => True) wr) ∧ Aside0 (wr.heap[g]? = some (.cells #[.slice A a.length ca, .slice B b.length cb] 25 (0, 0)))) (fun _ m _ => 2 - (intOf m).toNat)
      case atStart => exact ⟨0, by omega, rfl, rfl, HI, B26⟩
      case round =>
        clear HI B26
        obtain ⟨j, hj, rfl, rfl, HI, B26⟩ := hrel
        have hj3 : j = 0 ∨ j = 1 ∨ j = 2 := by omega
        rcases hj3 with rfl | rfl | rfl
        · have hg0 : wr.cell? ⟨g, 0, none⟩ = some (.slice A a.length ca) := (blk_cell B26.out 0).trans rfl
          go_upto_region 9 with fail
          clear hg0
          have B9 : Aside0 ((wr.alloc (.cells #[.slice A a.length ca] 25)).heap[wr.heap.size]? = some (.cells #[.slice A a.length ca] 25 (0, 0))) := ⟨blk_new _ _⟩
          replace HI := Aside0.mk (HI.out.next (below_alloc (Below.refl _ _) (.cells #[.slice A a.length ca] 25)))
          replace B26 := Aside0.mk (blk_alloc B26.out (.cells #[.slice A a.length ca] 25))
          generalize wr.alloc (.cells #[.slice A a.length ca] 25) = W2 at HI B26 B9 ⊢
          generalize wr.heap.size = g9 at B9 ⊢
          by_cases hka : k < a.length
          · obtain ⟨ad, A0, c0, rfl, hcell, hlen, hrow⟩ := at_L3 (Kd.C_below HRA.out HI.out.below) (k : Int) (by omega) (by omega)
            have hc9 : W2.cell? ⟨g9, 0, none⟩ = some (.slice (some ad) a.length ca) := (blk_cell B9.out 0).trans rfl
            simp only [Int.toNat_natCast] at hcell
            have HE : Aside0 (max ((nAt a b k 0 : Nat) : Int) ((rd_L3 a (k : Int)).length : Int) = ((nAt a b k 1 : Nat) : Int)) := ⟨nAt_0 a b k⟩
            clear hrow hlen
            generalize (rd_L3 a (k : Int)).length = len at hcell HE
            generalize nAt a b k 0 = n0 at HE ⊢
            go_wp2_with fail
            clear hc9 hcell
            go_roundw
            case rel => exact ⟨1, by omega, by go_num, congrArg (Value.int .i64) HE.out, HI, B26⟩
            case measure => simp [intOf]
          · have hc9 : W2.cell? ⟨g9, 0, none⟩ = some (.slice A a.length ca) := (blk_cell B9.out 0).trans rfl
            have HE : Aside0 (nAt a b k 0 = nAt a b k 1) := ⟨nAt_0' (by omega)⟩
            go_wp2_with fail
            clear hc9
            go_roundw
            case rel => exact ⟨1, by omega, by go_num, by rw [HE.out], HI, B26⟩
            case measure => simp [intOf]
        · have hg0 : wr.cell? ⟨g, 1, none⟩ = some (.slice B b.length cb) := (blk_cell B26.out 1).trans rfl
          go_upto_region 9 with fail
          clear hg0
          have B9 : Aside0 ((wr.alloc (.cells #[.slice B b.length cb] 25)).heap[wr.heap.size]? = some (.cells #[.slice B b.length cb] 25 (0, 0))) := ⟨blk_new _ _⟩
          replace HI := Aside0.mk (HI.out.next (below_alloc (Below.refl _ _) (.cells #[.slice B b.length cb] 25)))
          replace B26 := Aside0.mk (blk_alloc B26.out (.cells #[.slice B b.length cb] 25))
          generalize wr.alloc (.cells #[.slice B b.length cb] 25) = W2 at HI B26 B9 ⊢
          generalize wr.heap.size = g9 at B9 ⊢
          by_cases hka : k < b.length
          · obtain ⟨ad, A0, c0, rfl, hcell, hlen, hrow⟩ := at_L3 (Kd.C_below HRB.out HI.out.below) (k : Int) (by omega) (by omega)
            have hc9 : W2.cell? ⟨g9, 0, none⟩ = some (.slice (some ad) b.length cb) := (blk_cell B9.out 0).trans rfl
            simp only [Int.toNat_natCast] at hcell
            have HE : Aside0 (max ((nAt a b k 1 : Nat) : Int) ((rd_L3 b (k : Int)).length : Int) = ((nAt a b k 2 : Nat) : Int)) := ⟨nAt_1 a b k⟩
            clear hrow hlen
            generalize (rd_L3 b (k : Int)).length = len at hcell HE
            generalize nAt a b k 1 = n0 at HE ⊢
            go_wp2_with fail
            clear hc9 hcell
            go_roundw
            case rel => exact ⟨2, by omega, by go_num, congrArg (Value.int .i64) HE.out, HI, B26⟩
            case measure => simp [intOf]
          · have hc9 : W2.cell? ⟨g9, 0, none⟩ = some (.slice B b.length cb) := (blk_cell B9.out 0).trans rfl
            have HE : Aside0 (nAt a b k 1 = nAt a b k 2) := ⟨nAt_1' (by omega)⟩
            go_wp2_with fail
            clear hc9
            go_roundw
            case rel => exact ⟨2, by omega, by go_num, by rw [HE.out], HI, B26⟩
            case measure => simp [intOf]
        · go_upto_region 12 with fail
          have hn : nAt a b k 2 = rlen a b k := rfl
          have hnle : rlen a b k ≤ 5864062014634 := by have h1 := HXA.out k; have h2 := HXB.out k; unfold rlen; omega
          rw [hn]
          have HNR : Aside0 (frow a b k (rlen a b k) (rlen a b k) = mrow a b k) := ⟨rfl⟩
          clear hn B26
          generalize rlen a b k = n at hnle HNR ⊢
          obtain ⟨i28, hi28, hz28, hs28, hb28⟩ := info_parts (P := Tryz.prog) (e := 51) (z := (.agg #[(.int .i64 0), (.int .u16 0), (.int .u16 0), (.int .i64 0)])) (size := 4) (bytes := 24) info51_
          have HI1 := Aside0.mk HI.out.bound
          have hH := HI.out.below.size
          clear HI
          go_wp2_with (refine wpList_make_full _ rfl _ _ 53 rfl w.heap.size 51 i28 _ 4 Tryz.underlying53 hi28 hz28 hs28 .i64 .i64 (n : Int) (n : Int) n rfl rfl rfl rfl (by rw [hb28]; omega) (by unfold maxLen; omega) hH ?_; intro W3 hown hg3)
          have hrow : Kd.R k51 51 W3 w.heap.size (fun q => q = wr.heap.size) (.slice (some ⟨wr.heap.size, 0, none⟩) n n) (List.replicate n z51) :=
            ⟨fun q hq => by
              have : wr.heap.size = q := by simpa [Value.ownBlock] using hq
              exact this.symm, _, by rw [List.length_replicate]; exact hown, Kd.reps_made (z := .agg #[.int .i64 0, .int .u16 0, .int .u16 0, .int .i64 0]) (size := 4) rfl (by decide) (k51_mkM _ _ _ z51) n⟩
          rw [frow_zero a b k n] at hrow
          have HJ0 : Aside0 (J w (.slice A a.length ca) (.slice B b.length cb) v (mpart a b k) wr.heap.size n (frow a b k 0 n) z51 z51 none none W3) := ⟨⟨HI1.out.next ((Below.refl _ wr).grown hg3 (Nat.le_refl _) (fun j hj => by cases hj)), hrow, fun g hg => (by cases hg), fun g hg => (by cases hg), fun g g' hg => (by cases hg)⟩⟩
          clear hown hg3 hrow HI1 hi28 hz28 hs28 hb28 hH
          generalize wr.heap.size = H at HJ0 ⊢
          go_loopw [50] (fun i wr => ∃ m : Nat, m ≤ n ∧ i = .int .i64 m ∧ Aside0 (J w (.slice A a.length ca) (.slice B b.length cb) v (mpart a b k) H n (frow a b k m n) z51 z51 none none wr)) (fun i _ => n - (intOf i).toNat)
          case atStart => exact ⟨0, by omega, rfl, HJ0⟩
          case round =>
            clear HJ0
            obtain ⟨m, hm, rfl, HJ⟩ := hrel
            by_cases hlm : m < n
            · go_upto_region 16 with fail
              replace HJ := Aside0.mk (HJ.out.next (below_drew (Below.refl _ wr)))
              refine start_ (n := 12) (S := fun w' => w'.cell? ⟨w.heap.size, 0, none⟩ = some (.slice A a.length ca) ∧ w'.cell? ⟨w.heap.size + 1, 0, none⟩ = some (.slice B b.length cb)) (ds := []) #[false, false, false, false, false, false, false, false, false, false, false, false] (by kernel_rfl) rfl rfl ⟨(blk_cell HJ.out.ms.ba 0).trans rfl, (blk_cell HJ.out.ms.bb 0).trans rfl⟩ (fun hHeld => ?_)
              refine with_tabW r8_16_tab r8_16_bits (fun HT_ HW_ => ?_)
              generalize World.drew wr = W16 at HJ hHeld ⊢
              refine pure_ (i := 1) (N := some 54) (v := ?_) (a' := ?_) #[false, true, false, false, false, false, false, false, false, false, false, false] rfl rfl (any_of HT_.out (by kernel_rfl)) (fun _ _ _ h => h) (Or.inl ⟨by rfl, ?_⟩) ?_ ?_
              rotate_left
              · intro w'
                go_simp
                with_reducible rfl
              rotate_left
              · simp only [Act.put, List.setIfInBounds_toArray, List.set_cons_zero, List.set_cons_succ, i64_w, i32_w]
                rfl
              refine pure_ (i := 2) (N := some 55) (v := ?_) (a' := ?_) #[false, true, true, false, false, false, false, false, false, false, false, false] rfl rfl (any_of HT_.out (by kernel_rfl)) (fun _ _ _ h => h) (Or.inl ⟨by rfl, ?_⟩) ?_ ?_
              rotate_left
              · intro w'
                go_simp
                with_reducible rfl
              rotate_left
              · simp only [Act.put, List.setIfInBounds_toArray, List.set_cons_zero, List.set_cons_succ, i64_w, i32_w]
                rfl
              refine pure_ (i := 5) (N := some 58) (v := ?_) (a' := ?_) #[false, true, true, false, false, true, false, false, false, false, false, false] rfl rfl (any_of HT_.out (by kernel_rfl)) (fun _ _ _ h => h) (Or.inl ⟨by rfl, ?_⟩) ?_ ?_
              rotate_left
              · intro w'
                go_simp
                with_reducible rfl
              rotate_left
              · simp only [Act.put, List.setIfInBounds_toArray, List.set_cons_zero, List.set_cons_succ, i64_w, i32_w]
                rfl
              refine pure_ (i := 6) (N := some 59) (v := ?_) (a' := ?_) #[false, true, true, false, false, true, true, false, false, false, false, false] rfl rfl (any_of HT_.out (by kernel_rfl)) (fun _ _ _ h => h) (Or.inl ⟨by rfl, ?_⟩) ?_ ?_
              rotate_left
              · intro w'
                go_simp
                with_reducible rfl
              rotate_left
              · simp only [Act.put, List.setIfInBounds_toArray, List.set_cons_zero, List.set_cons_succ, i64_w, i32_w]
                rfl
              refine take_ (i := 0) (N := some 53) (v := ?_) (a' := ?_) #[true, true, true, false, false, true, true, false, false, false, false, false] rfl rfl (take_ofW HT_.out HW_.out (by kernel_rfl)) (fun _ _ _ h => h) (Or.inl ⟨by rfl, ?_⟩) hHeld ?_ ?_
              rotate_left
              · rintro w' ⟨s0, s1⟩
                go_simp
                with_reducible rfl
              rotate_left
              · simp only [Act.put, List.setIfInBounds_toArray, List.set_cons_zero, List.set_cons_succ, i64_w, i32_w]
                rfl
              refine take_ (i := 4) (N := some 57) (v := ?_) (a' := ?_) #[true, true, true, false, true, true, true, false, false, false, false, false] rfl rfl (take_ofW HT_.out HW_.out (by kernel_rfl)) (fun _ _ _ h => h) (Or.inl ⟨by rfl, ?_⟩) hHeld ?_ ?_
              rotate_left
              · rintro w' ⟨s0, s1⟩
                go_simp
                with_reducible rfl
              rotate_left
              · simp only [Act.put, List.setIfInBounds_toArray, List.set_cons_zero, List.set_cons_succ, i64_w, i32_w]
                rfl
              refine join_ (σ := Nat × Nat) 2 #[true, true, true, true, true, true, true, true, true, true, false, false] (fun s => [(12, .pointer (some ⟨s.1, 0, none⟩)), (13, .pointer (some ⟨s.2, 0, none⟩)), (56, .agg (spc (gt a k m))), (60, .agg (spc (gt b k m)))]) (fun s w' => Aside0 (J w (.slice A a.length ca) (.slice B b.length cb) v (mpart a b k) H n (frow a b k m n) z51 z51 (some s.1) (some s.2) w')) ?_ (fun hC => ?_)
              rotate_left
              · have HC := Aside0.mk hC
                clear hC
                refine three_ (i := 3) (j := 8) (k := 9) (Ni := some 56) (Nj := some 12) (Nk := some 13) #[true, true, true, true, true, true, true, false, false, false, false, false] #[true, true, true, false, true, true, true, false, true, false, false, false] #[true, true, true, false, true, true, true, false, false, true, false, false] rfl rfl rfl rfl rfl rfl (three_of HT_.out (by kernel_rfl)) (by decide) (by decide) (by decide) (fun K hK => ?_) (fun K hK => ?_) (fun K hK => ?_)
                · refine goes_ Tryz.func18 (by kernel_rfl) rfl #[.agg #[.slice A a.length ca], .int .i64 (k : Int), .int .i64 (m : Int)] (by rfl) rfl rfl (by (try simp only [List.map_toArray, List.map_cons, List.map_nil]); first | done | rfl) ?_
                  refine (profile_At.calls A ca a (k : Int) (m : Int) _ _ _ _ W16 (Kd.C_below HRA.out HJ.out.ms.below) (by omega) (at_code a k m)).mono ?_
                  rintro e X1 ⟨rfl, hb1⟩
                  refine ⟨_, rfl, ?_⟩
                  have HJ_1 := Aside0.mk (HJ.out.next hb1)
                  clear hb1 HJ
                  refine hK.out _ _ ⟨(blk_cell HJ_1.out.ms.ba 0).trans rfl, (blk_cell HJ_1.out.ms.bb 0).trans rfl⟩ (fun hHeld => ?_)
                  clear hK K
                  refine norm_ (a' := ?_) ?_ ?_
                  rotate_left
                  · show Act.put _ (some 56) _ = _
                    simp only [Act.put, List.setIfInBounds_toArray, List.set_cons_zero, List.set_cons_succ, i64_w, i32_w]
                    rfl
                  clear hHeld
                  refine three_ (i := 7) (j := 8) (k := 9) (Ni := some 60) (Nj := some 12) (Nk := some 13) #[true, true, true, true, true, true, true, true, false, false, false, false] #[true, true, true, true, true, true, true, false, true, false, false, false] #[true, true, true, true, true, true, true, false, false, true, false, false] rfl rfl rfl rfl rfl rfl (three_of HT_.out (by kernel_rfl)) (by decide) (by decide) (by decide) (fun K hK => ?_) (fun K hK => ?_) (fun K hK => ?_)
                  · refine goes_ Tryz.func18 (by kernel_rfl) rfl #[.agg #[.slice B b.length cb], .int .i64 (k : Int), .int .i64 (m : Int)] (by rfl) rfl rfl (by (try simp only [List.map_toArray, List.map_cons, List.map_nil]); first | done | rfl) ?_
                    refine (profile_At.calls B cb b (k : Int) (m : Int) _ _ _ _ X1 (Kd.C_below HRB.out HJ_1.out.ms.below) (by omega) (at_code b k m)).mono ?_
                    rintro e X2 ⟨rfl, hb2⟩
                    refine ⟨_, rfl, ?_⟩
                    have HJ_2 := Aside0.mk (HJ_1.out.next hb2)
                    clear hb2 HJ_1
                    refine hK.out _ _ ⟨(blk_cell HJ_2.out.ms.ba 0).trans rfl, (blk_cell HJ_2.out.ms.bb 0).trans rfl⟩ (fun hHeld => ?_)
                    clear hK K
                    refine norm_ (a' := ?_) ?_ ?_
                    rotate_left
                    · show Act.put _ (some 60) _ = _
                      simp only [Act.put, List.setIfInBounds_toArray, List.set_cons_zero, List.set_cons_succ, i64_w, i32_w]
                      rfl
                    clear hHeld
                    refine two_ (i := 8) (j := 9) (Ni := some 12) (Nj := some 13) #[true, true, true, true, true, true, true, true, true, false, false, false] #[true, true, true, true, true, true, true, true, false, true, false, false] rfl rfl rfl rfl (two_of HT_.out (by kernel_rfl)) (by decide) (by decide) (fun K hK => ?_) (fun K hK => ?_)
                    · have HJ_3 : Aside0 (J w (.slice A a.length ca) (.slice B b.length cb) v (mpart a b k) H n (frow a b k m n) z51 z51 (some X2.heap.size) none (X2.alloc (.cells #[.int .i64 0, .int .u16 0, .int .u16 0, .int .i64 0] 51))) := ⟨HJ_2.out.new12⟩
                      clear HJ_2
                      refine value_ (w1 := ?_) (v := ?_) (by rfl) rfl ?_ ?_
                      rotate_left 2
                      · go_simp
                        constructor
                        · rfl
                        · rfl
                      refine hK.out _ _ ⟨(blk_cell HJ_3.out.ms.ba 0).trans rfl, (blk_cell HJ_3.out.ms.bb 0).trans rfl⟩ (fun hHeld => ?_)
                      clear hK K
                      refine norm_ (a' := ?_) ?_ ?_
                      rotate_left
                      · show Act.put _ (some 12) _ = _
                        simp only [Act.put, List.setIfInBounds_toArray, List.set_cons_zero, List.set_cons_succ, i64_w, i32_w]
                        rfl
                      clear hHeld
                      generalize X2.alloc (.cells #[.int .i64 0, .int .u16 0, .int .u16 0, .int .i64 0] 51) = X3 at HJ_3 ⊢
                      refine one_ (i := 9) (N := some 13) #[true, true, true, true, true, true, true, true, true, true, false, false] rfl rfl (one_of HT_.out (by kernel_rfl)) (by decide) (fun K hK => ?_)
                      have HJ_4 : Aside0 (J w (.slice A a.length ca) (.slice B b.length cb) v (mpart a b k) H n (frow a b k m n) z51 z51 (some X2.heap.size) (some X3.heap.size) (X3.alloc (.cells #[.int .i64 0, .int .u16 0, .int .u16 0, .int .i64 0] 51))) := ⟨HJ_3.out.new13⟩
                      clear HJ_3
                      refine value_ (w1 := ?_) (v := ?_) (by rfl) rfl ?_ ?_
                      rotate_left 2
                      · go_simp
                        constructor
                        · rfl
                        · rfl
                      refine hK.out _ _ ⟨(blk_cell HJ_4.out.ms.ba 0).trans rfl, (blk_cell HJ_4.out.ms.bb 0).trans rfl⟩ (fun hHeld => ?_)
                      clear hK K
                      refine norm_ (a' := ?_) ?_ ?_
                      rotate_left
                      · show Act.put _ (some 13) _ = _
                        simp only [Act.put, List.setIfInBounds_toArray, List.set_cons_zero, List.set_cons_succ, i64_w, i32_w]
                        rfl
                      clear hHeld
                      generalize X3.alloc (.cells #[.int .i64 0, .int .u16 0, .int .u16 0, .int .i64 0] 51) = X4 at HJ_4 ⊢
                      exact norm_ (by rfl) (HC.out (X2.heap.size, X3.heap.size) X4 HJ_4)
                    · have HJ_5 : Aside0 (J w (.slice A a.length ca) (.slice B b.length cb) v (mpart a b k) H n (frow a b k m n) z51 z51 none (some X2.heap.size) (X2.alloc (.cells #[.int .i64 0, .int .u16 0, .int .u16 0, .int .i64 0] 51))) := ⟨HJ_2.out.new13⟩
                      clear HJ_2
                      refine value_ (w1 := ?_) (v := ?_) (by rfl) rfl ?_ ?_
                      rotate_left 2
                      · go_simp
                        constructor
                        · rfl
                        · rfl
                      refine hK.out _ _ ⟨(blk_cell HJ_5.out.ms.ba 0).trans rfl, (blk_cell HJ_5.out.ms.bb 0).trans rfl⟩ (fun hHeld => ?_)
                      clear hK K
                      refine norm_ (a' := ?_) ?_ ?_
                      rotate_left
                      · show Act.put _ (some 13) _ = _
                        simp only [Act.put, List.setIfInBounds_toArray, List.set_cons_zero, List.set_cons_succ, i64_w, i32_w]
                        rfl
                      clear hHeld
                      generalize X2.alloc (.cells #[.int .i64 0, .int .u16 0, .int .u16 0, .int .i64 0] 51) = X5 at HJ_5 ⊢
                      refine one_ (i := 8) (N := some 12) #[true, true, true, true, true, true, true, true, true, true, false, false] rfl rfl (one_of HT_.out (by kernel_rfl)) (by decide) (fun K hK => ?_)
                      have HJ_6 : Aside0 (J w (.slice A a.length ca) (.slice B b.length cb) v (mpart a b k) H n (frow a b k m n) z51 z51 (some X5.heap.size) (some X2.heap.size) (X5.alloc (.cells #[.int .i64 0, .int .u16 0, .int .u16 0, .int .i64 0] 51))) := ⟨HJ_5.out.new12⟩
                      clear HJ_5
                      refine value_ (w1 := ?_) (v := ?_) (by rfl) rfl ?_ ?_
                      rotate_left 2
                      · go_simp
                        constructor
                        · rfl
                        · rfl
                      refine hK.out _ _ ⟨(blk_cell HJ_6.out.ms.ba 0).trans rfl, (blk_cell HJ_6.out.ms.bb 0).trans rfl⟩ (fun hHeld => ?_)
                      clear hK K
                      refine norm_ (a' := ?_) ?_ ?_
                      rotate_left
                      · show Act.put _ (some 12) _ = _
                        simp only [Act.put, List.setIfInBounds_toArray, List.set_cons_zero, List.set_cons_succ, i64_w, i32_w]
                        rfl
                      clear hHeld
                      generalize X5.alloc (.cells #[.int .i64 0, .int .u16 0, .int .u16 0, .int .i64 0] 51) = X6 at HJ_6 ⊢
                      exact norm_ (by rfl) (HC.out (X5.heap.size, X2.heap.size) X6 HJ_6)
                  · have HJ_7 : Aside0 (J w (.slice A a.length ca) (.slice B b.length cb) v (mpart a b k) H n (frow a b k m n) z51 z51 (some X1.heap.size) none (X1.alloc (.cells #[.int .i64 0, .int .u16 0, .int .u16 0, .int .i64 0] 51))) := ⟨HJ_1.out.new12⟩
                    clear HJ_1
                    refine value_ (w1 := ?_) (v := ?_) (by rfl) rfl ?_ ?_
                    rotate_left 2
                    · go_simp
                      constructor
                      · rfl
                      · rfl
                    refine hK.out _ _ ⟨(blk_cell HJ_7.out.ms.ba 0).trans rfl, (blk_cell HJ_7.out.ms.bb 0).trans rfl⟩ (fun hHeld => ?_)
                    clear hK K
                    refine norm_ (a' := ?_) ?_ ?_
                    rotate_left
                    · show Act.put _ (some 12) _ = _
                      simp only [Act.put, List.setIfInBounds_toArray, List.set_cons_zero, List.set_cons_succ, i64_w, i32_w]
                      rfl
                    clear hHeld
                    generalize X1.alloc (.cells #[.int .i64 0, .int .u16 0, .int .u16 0, .int .i64 0] 51) = X7 at HJ_7 ⊢
                    refine two_ (i := 7) (j := 9) (Ni := some 60) (Nj := some 13) #[true, true, true, true, true, true, true, true, true, false, false, false] #[true, true, true, true, true, true, true, false, true, true, false, false] rfl rfl rfl rfl (two_of HT_.out (by kernel_rfl)) (by decide) (by decide) (fun K hK => ?_) (fun K hK => ?_)
                    · refine goes_ Tryz.func18 (by kernel_rfl) rfl #[.agg #[.slice B b.length cb], .int .i64 (k : Int), .int .i64 (m : Int)] (by rfl) rfl rfl (by (try simp only [List.map_toArray, List.map_cons, List.map_nil]); first | done | rfl) ?_
                      refine (profile_At.calls B cb b (k : Int) (m : Int) _ _ _ _ X7 (Kd.C_below HRB.out HJ_7.out.ms.below) (by omega) (at_code b k m)).mono ?_
                      rintro e X8 ⟨rfl, hb8⟩
                      refine ⟨_, rfl, ?_⟩
                      have HJ_8 := Aside0.mk (HJ_7.out.next hb8)
                      clear hb8 HJ_7
                      refine hK.out _ _ ⟨(blk_cell HJ_8.out.ms.ba 0).trans rfl, (blk_cell HJ_8.out.ms.bb 0).trans rfl⟩ (fun hHeld => ?_)
                      clear hK K
                      refine norm_ (a' := ?_) ?_ ?_
                      rotate_left
                      · show Act.put _ (some 60) _ = _
                        simp only [Act.put, List.setIfInBounds_toArray, List.set_cons_zero, List.set_cons_succ, i64_w, i32_w]
                        rfl
                      clear hHeld
                      refine one_ (i := 9) (N := some 13) #[true, true, true, true, true, true, true, true, true, true, false, false] rfl rfl (one_of HT_.out (by kernel_rfl)) (by decide) (fun K hK => ?_)
                      have HJ_9 : Aside0 (J w (.slice A a.length ca) (.slice B b.length cb) v (mpart a b k) H n (frow a b k m n) z51 z51 (some X1.heap.size) (some X8.heap.size) (X8.alloc (.cells #[.int .i64 0, .int .u16 0, .int .u16 0, .int .i64 0] 51))) := ⟨HJ_8.out.new13⟩
                      clear HJ_8
                      refine value_ (w1 := ?_) (v := ?_) (by rfl) rfl ?_ ?_
                      rotate_left 2
                      · go_simp
                        constructor
                        · rfl
                        · rfl
                      refine hK.out _ _ ⟨(blk_cell HJ_9.out.ms.ba 0).trans rfl, (blk_cell HJ_9.out.ms.bb 0).trans rfl⟩ (fun hHeld => ?_)
                      clear hK K
                      refine norm_ (a' := ?_) ?_ ?_
                      rotate_left
                      · show Act.put _ (some 13) _ = _
                        simp only [Act.put, List.setIfInBounds_toArray, List.set_cons_zero, List.set_cons_succ, i64_w, i32_w]
                        rfl
                      clear hHeld
                      generalize X8.alloc (.cells #[.int .i64 0, .int .u16 0, .int .u16 0, .int .i64 0] 51) = X9 at HJ_9 ⊢
                      exact norm_ (by rfl) (HC.out (X1.heap.size, X8.heap.size) X9 HJ_9)
                    · have HJ_10 : Aside0 (J w (.slice A a.length ca) (.slice B b.length cb) v (mpart a b k) H n (frow a b k m n) z51 z51 (some X1.heap.size) (some X7.heap.size) (X7.alloc (.cells #[.int .i64 0, .int .u16 0, .int .u16 0, .int .i64 0] 51))) := ⟨HJ_7.out.new13⟩
                      clear HJ_7
                      refine value_ (w1 := ?_) (v := ?_) (by rfl) rfl ?_ ?_
                      rotate_left 2
                      · go_simp
                        constructor
                        · rfl
                        · rfl
                      refine hK.out _ _ ⟨(blk_cell HJ_10.out.ms.ba 0).trans rfl, (blk_cell HJ_10.out.ms.bb 0).trans rfl⟩ (fun hHeld => ?_)
                      clear hK K
                      refine norm_ (a' := ?_) ?_ ?_
                      rotate_left
                      · show Act.put _ (some 13) _ = _
                        simp only [Act.put, List.setIfInBounds_toArray, List.set_cons_zero, List.set_cons_succ, i64_w, i32_w]
                        rfl
                      clear hHeld
                      generalize X7.alloc (.cells #[.int .i64 0, .int .u16 0, .int .u16 0, .int .i64 0] 51) = X10 at HJ_10 ⊢
                      refine one_ (i := 7) (N := some 60) #[true, true, true, true, true, true, true, true, true, true, false, false] rfl rfl (one_of HT_.out (by kernel_rfl)) (by decide) (fun K hK => ?_)
                      refine goes_ Tryz.func18 (by kernel_rfl) rfl #[.agg #[.slice B b.length cb], .int .i64 (k : Int), .int .i64 (m : Int)] (by rfl) rfl rfl (by (try simp only [List.map_toArray, List.map_cons, List.map_nil]); first | done | rfl) ?_
                      refine (profile_At.calls B cb b (k : Int) (m : Int) _ _ _ _ X10 (Kd.C_below HRB.out HJ_10.out.ms.below) (by omega) (at_code b k m)).mono ?_
                      rintro e X11 ⟨rfl, hb11⟩
                      refine ⟨_, rfl, ?_⟩
                      have HJ_11 := Aside0.mk (HJ_10.out.next hb11)
                      clear hb11 HJ_10
                      refine hK.out _ _ ⟨(blk_cell HJ_11.out.ms.ba 0).trans rfl, (blk_cell HJ_11.out.ms.bb 0).trans rfl⟩ (fun hHeld => ?_)
                      clear hK K
                      refine norm_ (a' := ?_) ?_ ?_
                      rotate_left
                      · show Act.put _ (some 60) _ = _
                        simp only [Act.put, List.setIfInBounds_toArray, List.set_cons_zero, List.set_cons_succ, i64_w, i32_w]
                        rfl
                      clear hHeld
                      exact norm_ (by rfl) (HC.out (X1.heap.size, X7.heap.size) X11 HJ_11)
                  · have HJ_12 : Aside0 (J w (.slice A a.length ca) (.slice B b.length cb) v (mpart a b k) H n (frow a b k m n) z51 z51 none (some X1.heap.size) (X1.alloc (.cells #[.int .i64 0, .int .u16 0, .int .u16 0, .int .i64 0] 51))) := ⟨HJ_1.out.new13⟩
                    clear HJ_1
                    refine value_ (w1 := ?_) (v := ?_) (by rfl) rfl ?_ ?_
                    rotate_left 2
                    · go_simp
                      constructor
                      · rfl
                      · rfl
                    refine hK.out _ _ ⟨(blk_cell HJ_12.out.ms.ba 0).trans rfl, (blk_cell HJ_12.out.ms.bb 0).trans rfl⟩ (fun hHeld => ?_)
                    clear hK K
                    refine norm_ (a' := ?_) ?_ ?_
                    rotate_left
                    · show Act.put _ (some 13) _ = _
                      simp only [Act.put, List.setIfInBounds_toArray, List.set_cons_zero, List.set_cons_succ, i64_w, i32_w]
                      rfl
                    clear hHeld
                    generalize X1.alloc (.cells #[.int .i64 0, .int .u16 0, .int .u16 0, .int .i64 0] 51) = X12 at HJ_12 ⊢
                    refine two_ (i := 7) (j := 8) (Ni := some 60) (Nj := some 12) #[true, true, true, true, true, true, true, true, false, true, false, false] #[true, true, true, true, true, true, true, false, true, true, false, false] rfl rfl rfl rfl (two_of HT_.out (by kernel_rfl)) (by decide) (by decide) (fun K hK => ?_) (fun K hK => ?_)
                    · refine goes_ Tryz.func18 (by kernel_rfl) rfl #[.agg #[.slice B b.length cb], .int .i64 (k : Int), .int .i64 (m : Int)] (by rfl) rfl rfl (by (try simp only [List.map_toArray, List.map_cons, List.map_nil]); first | done | rfl) ?_
                      refine (profile_At.calls B cb b (k : Int) (m : Int) _ _ _ _ X12 (Kd.C_below HRB.out HJ_12.out.ms.below) (by omega) (at_code b k m)).mono ?_
                      rintro e X13 ⟨rfl, hb13⟩
                      refine ⟨_, rfl, ?_⟩
                      have HJ_13 := Aside0.mk (HJ_12.out.next hb13)
                      clear hb13 HJ_12
                      refine hK.out _ _ ⟨(blk_cell HJ_13.out.ms.ba 0).trans rfl, (blk_cell HJ_13.out.ms.bb 0).trans rfl⟩ (fun hHeld => ?_)
                      clear hK K
                      refine norm_ (a' := ?_) ?_ ?_
                      rotate_left
                      · show Act.put _ (some 60) _ = _
                        simp only [Act.put, List.setIfInBounds_toArray, List.set_cons_zero, List.set_cons_succ, i64_w, i32_w]
                        rfl
                      clear hHeld
                      refine one_ (i := 8) (N := some 12) #[true, true, true, true, true, true, true, true, true, true, false, false] rfl rfl (one_of HT_.out (by kernel_rfl)) (by decide) (fun K hK => ?_)
                      have HJ_14 : Aside0 (J w (.slice A a.length ca) (.slice B b.length cb) v (mpart a b k) H n (frow a b k m n) z51 z51 (some X13.heap.size) (some X1.heap.size) (X13.alloc (.cells #[.int .i64 0, .int .u16 0, .int .u16 0, .int .i64 0] 51))) := ⟨HJ_13.out.new12⟩
                      clear HJ_13
                      refine value_ (w1 := ?_) (v := ?_) (by rfl) rfl ?_ ?_
                      rotate_left 2
                      · go_simp
                        constructor
                        · rfl
                        · rfl
                      refine hK.out _ _ ⟨(blk_cell HJ_14.out.ms.ba 0).trans rfl, (blk_cell HJ_14.out.ms.bb 0).trans rfl⟩ (fun hHeld => ?_)
                      clear hK K
                      refine norm_ (a' := ?_) ?_ ?_
                      rotate_left
                      · show Act.put _ (some 12) _ = _
                        simp only [Act.put, List.setIfInBounds_toArray, List.set_cons_zero, List.set_cons_succ, i64_w, i32_w]
                        rfl
                      clear hHeld
                      generalize X13.alloc (.cells #[.int .i64 0, .int .u16 0, .int .u16 0, .int .i64 0] 51) = X14 at HJ_14 ⊢
                      exact norm_ (by rfl) (HC.out (X13.heap.size, X1.heap.size) X14 HJ_14)
                    · have HJ_15 : Aside0 (J w (.slice A a.length ca) (.slice B b.length cb) v (mpart a b k) H n (frow a b k m n) z51 z51 (some X12.heap.size) (some X1.heap.size) (X12.alloc (.cells #[.int .i64 0, .int .u16 0, .int .u16 0, .int .i64 0] 51))) := ⟨HJ_12.out.new12⟩
                      clear HJ_12
                      refine value_ (w1 := ?_) (v := ?_) (by rfl) rfl ?_ ?_
                      rotate_left 2
                      · go_simp
                        constructor
                        · rfl
                        · rfl
                      refine hK.out _ _ ⟨(blk_cell HJ_15.out.ms.ba 0).trans rfl, (blk_cell HJ_15.out.ms.bb 0).trans rfl⟩ (fun hHeld => ?_)
                      clear hK K
                      refine norm_ (a' := ?_) ?_ ?_
                      rotate_left
                      · show Act.put _ (some 12) _ = _
                        simp only [Act.put, List.setIfInBounds_toArray, List.set_cons_zero, List.set_cons_succ, i64_w, i32_w]
                        rfl
                      clear hHeld
                      generalize X12.alloc (.cells #[.int .i64 0, .int .u16 0, .int .u16 0, .int .i64 0] 51) = X15 at HJ_15 ⊢
                      refine one_ (i := 7) (N := some 60) #[true, true, true, true, true, true, true, true, true, true, false, false] rfl rfl (one_of HT_.out (by kernel_rfl)) (by decide) (fun K hK => ?_)
                      refine goes_ Tryz.func18 (by kernel_rfl) rfl #[.agg #[.slice B b.length cb], .int .i64 (k : Int), .int .i64 (m : Int)] (by rfl) rfl rfl (by (try simp only [List.map_toArray, List.map_cons, List.map_nil]); first | done | rfl) ?_
                      refine (profile_At.calls B cb b (k : Int) (m : Int) _ _ _ _ X15 (Kd.C_below HRB.out HJ_15.out.ms.below) (by omega) (at_code b k m)).mono ?_
                      rintro e X16 ⟨rfl, hb16⟩
                      refine ⟨_, rfl, ?_⟩
                      have HJ_16 := Aside0.mk (HJ_15.out.next hb16)
                      clear hb16 HJ_15
                      refine hK.out _ _ ⟨(blk_cell HJ_16.out.ms.ba 0).trans rfl, (blk_cell HJ_16.out.ms.bb 0).trans rfl⟩ (fun hHeld => ?_)
                      clear hK K
                      refine norm_ (a' := ?_) ?_ ?_
                      rotate_left
                      · show Act.put _ (some 60) _ = _
                        simp only [Act.put, List.setIfInBounds_toArray, List.set_cons_zero, List.set_cons_succ, i64_w, i32_w]
                        rfl
                      clear hHeld
                      exact norm_ (by rfl) (HC.out (X12.heap.size, X1.heap.size) X16 HJ_16)
                · have HJ_17 : Aside0 (J w (.slice A a.length ca) (.slice B b.length cb) v (mpart a b k) H n (frow a b k m n) z51 z51 (some W16.heap.size) none (W16.alloc (.cells #[.int .i64 0, .int .u16 0, .int .u16 0, .int .i64 0] 51))) := ⟨HJ.out.new12⟩
                  clear HJ
                  refine value_ (w1 := ?_) (v := ?_) (by rfl) rfl ?_ ?_
                  rotate_left 2
                  · go_simp
                    constructor
                    · rfl
                    · rfl
                  refine hK.out _ _ ⟨(blk_cell HJ_17.out.ms.ba 0).trans rfl, (blk_cell HJ_17.out.ms.bb 0).trans rfl⟩ (fun hHeld => ?_)
                  clear hK K
                  refine norm_ (a' := ?_) ?_ ?_
                  rotate_left
                  · show Act.put _ (some 12) _ = _
                    simp only [Act.put, List.setIfInBounds_toArray, List.set_cons_zero, List.set_cons_succ, i64_w, i32_w]
                    rfl
                  clear hHeld
                  generalize W16.alloc (.cells #[.int .i64 0, .int .u16 0, .int .u16 0, .int .i64 0] 51) = X17 at HJ_17 ⊢
                  refine two_ (i := 3) (j := 9) (Ni := some 56) (Nj := some 13) #[true, true, true, true, true, true, true, false, true, false, false, false] #[true, true, true, false, true, true, true, false, true, true, false, false] rfl rfl rfl rfl (two_of HT_.out (by kernel_rfl)) (by decide) (by decide) (fun K hK => ?_) (fun K hK => ?_)
                  · refine goes_ Tryz.func18 (by kernel_rfl) rfl #[.agg #[.slice A a.length ca], .int .i64 (k : Int), .int .i64 (m : Int)] (by rfl) rfl rfl (by (try simp only [List.map_toArray, List.map_cons, List.map_nil]); first | done | rfl) ?_
                    refine (profile_At.calls A ca a (k : Int) (m : Int) _ _ _ _ X17 (Kd.C_below HRA.out HJ_17.out.ms.below) (by omega) (at_code a k m)).mono ?_
                    rintro e X18 ⟨rfl, hb18⟩
                    refine ⟨_, rfl, ?_⟩
                    have HJ_18 := Aside0.mk (HJ_17.out.next hb18)
                    clear hb18 HJ_17
                    refine hK.out _ _ ⟨(blk_cell HJ_18.out.ms.ba 0).trans rfl, (blk_cell HJ_18.out.ms.bb 0).trans rfl⟩ (fun hHeld => ?_)
                    clear hK K
                    refine norm_ (a' := ?_) ?_ ?_
                    rotate_left
                    · show Act.put _ (some 56) _ = _
                      simp only [Act.put, List.setIfInBounds_toArray, List.set_cons_zero, List.set_cons_succ, i64_w, i32_w]
                      rfl
                    clear hHeld
                    refine two_ (i := 7) (j := 9) (Ni := some 60) (Nj := some 13) #[true, true, true, true, true, true, true, true, true, false, false, false] #[true, true, true, true, true, true, true, false, true, true, false, false] rfl rfl rfl rfl (two_of HT_.out (by kernel_rfl)) (by decide) (by decide) (fun K hK => ?_) (fun K hK => ?_)
                    · refine goes_ Tryz.func18 (by kernel_rfl) rfl #[.agg #[.slice B b.length cb], .int .i64 (k : Int), .int .i64 (m : Int)] (by rfl) rfl rfl (by (try simp only [List.map_toArray, List.map_cons, List.map_nil]); first | done | rfl) ?_
                      refine (profile_At.calls B cb b (k : Int) (m : Int) _ _ _ _ X18 (Kd.C_below HRB.out HJ_18.out.ms.below) (by omega) (at_code b k m)).mono ?_
                      rintro e X19 ⟨rfl, hb19⟩
                      refine ⟨_, rfl, ?_⟩
                      have HJ_19 := Aside0.mk (HJ_18.out.next hb19)
                      clear hb19 HJ_18
                      refine hK.out _ _ ⟨(blk_cell HJ_19.out.ms.ba 0).trans rfl, (blk_cell HJ_19.out.ms.bb 0).trans rfl⟩ (fun hHeld => ?_)
                      clear hK K
                      refine norm_ (a' := ?_) ?_ ?_
                      rotate_left
                      · show Act.put _ (some 60) _ = _
                        simp only [Act.put, List.setIfInBounds_toArray, List.set_cons_zero, List.set_cons_succ, i64_w, i32_w]
                        rfl
                      clear hHeld
                      refine one_ (i := 9) (N := some 13) #[true, true, true, true, true, true, true, true, true, true, false, false] rfl rfl (one_of HT_.out (by kernel_rfl)) (by decide) (fun K hK => ?_)
                      have HJ_20 : Aside0 (J w (.slice A a.length ca) (.slice B b.length cb) v (mpart a b k) H n (frow a b k m n) z51 z51 (some W16.heap.size) (some X19.heap.size) (X19.alloc (.cells #[.int .i64 0, .int .u16 0, .int .u16 0, .int .i64 0] 51))) := ⟨HJ_19.out.new13⟩
                      clear HJ_19
                      refine value_ (w1 := ?_) (v := ?_) (by rfl) rfl ?_ ?_
                      rotate_left 2
                      · go_simp
                        constructor
                        · rfl
                        · rfl
                      refine hK.out _ _ ⟨(blk_cell HJ_20.out.ms.ba 0).trans rfl, (blk_cell HJ_20.out.ms.bb 0).trans rfl⟩ (fun hHeld => ?_)
                      clear hK K
                      refine norm_ (a' := ?_) ?_ ?_
                      rotate_left
                      · show Act.put _ (some 13) _ = _
                        simp only [Act.put, List.setIfInBounds_toArray, List.set_cons_zero, List.set_cons_succ, i64_w, i32_w]
                        rfl
                      clear hHeld
                      generalize X19.alloc (.cells #[.int .i64 0, .int .u16 0, .int .u16 0, .int .i64 0] 51) = X20 at HJ_20 ⊢
                      exact norm_ (by rfl) (HC.out (W16.heap.size, X19.heap.size) X20 HJ_20)
                    · have HJ_21 : Aside0 (J w (.slice A a.length ca) (.slice B b.length cb) v (mpart a b k) H n (frow a b k m n) z51 z51 (some W16.heap.size) (some X18.heap.size) (X18.alloc (.cells #[.int .i64 0, .int .u16 0, .int .u16 0, .int .i64 0] 51))) := ⟨HJ_18.out.new13⟩
                      clear HJ_18
                      refine value_ (w1 := ?_) (v := ?_) (by rfl) rfl ?_ ?_
                      rotate_left 2
                      · go_simp
                        constructor
                        · rfl
                        · rfl
                      refine hK.out _ _ ⟨(blk_cell HJ_21.out.ms.ba 0).trans rfl, (blk_cell HJ_21.out.ms.bb 0).trans rfl⟩ (fun hHeld => ?_)
                      clear hK K
                      refine norm_ (a' := ?_) ?_ ?_
                      rotate_left
                      · show Act.put _ (some 13) _ = _
                        simp only [Act.put, List.setIfInBounds_toArray, List.set_cons_zero, List.set_cons_succ, i64_w, i32_w]
                        rfl
                      clear hHeld
                      generalize X18.alloc (.cells #[.int .i64 0, .int .u16 0, .int .u16 0, .int .i64 0] 51) = X21 at HJ_21 ⊢
                      refine one_ (i := 7) (N := some 60) #[true, true, true, true, true, true, true, true, true, true, false, false] rfl rfl (one_of HT_.out (by kernel_rfl)) (by decide) (fun K hK => ?_)
                      refine goes_ Tryz.func18 (by kernel_rfl) rfl #[.agg #[.slice B b.length cb], .int .i64 (k : Int), .int .i64 (m : Int)] (by rfl) rfl rfl (by (try simp only [List.map_toArray, List.map_cons, List.map_nil]); first | done | rfl) ?_
                      refine (profile_At.calls B cb b (k : Int) (m : Int) _ _ _ _ X21 (Kd.C_below HRB.out HJ_21.out.ms.below) (by omega) (at_code b k m)).mono ?_
                      rintro e X22 ⟨rfl, hb22⟩
                      refine ⟨_, rfl, ?_⟩
                      have HJ_22 := Aside0.mk (HJ_21.out.next hb22)
                      clear hb22 HJ_21
                      refine hK.out _ _ ⟨(blk_cell HJ_22.out.ms.ba 0).trans rfl, (blk_cell HJ_22.out.ms.bb 0).trans rfl⟩ (fun hHeld => ?_)
                      clear hK K
                      refine norm_ (a' := ?_) ?_ ?_
                      rotate_left
                      · show Act.put _ (some 60) _ = _
                        simp only [Act.put, List.setIfInBounds_toArray, List.set_cons_zero, List.set_cons_succ, i64_w, i32_w]
                        rfl
                      clear hHeld
                      exact norm_ (by rfl) (HC.out (W16.heap.size, X18.heap.size) X22 HJ_22)
                  · have HJ_23 : Aside0 (J w (.slice A a.length ca) (.slice B b.length cb) v (mpart a b k) H n (frow a b k m n) z51 z51 (some W16.heap.size) (some X17.heap.size) (X17.alloc (.cells #[.int .i64 0, .int .u16 0, .int .u16 0, .int .i64 0] 51))) := ⟨HJ_17.out.new13⟩
                    clear HJ_17
                    refine value_ (w1 := ?_) (v := ?_) (by rfl) rfl ?_ ?_
                    rotate_left 2
                    · go_simp
                      constructor
                      · rfl
                      · rfl
                    refine hK.out _ _ ⟨(blk_cell HJ_23.out.ms.ba 0).trans rfl, (blk_cell HJ_23.out.ms.bb 0).trans rfl⟩ (fun hHeld => ?_)
                    clear hK K
                    refine norm_ (a' := ?_) ?_ ?_
                    rotate_left
                    · show Act.put _ (some 13) _ = _
                      simp only [Act.put, List.setIfInBounds_toArray, List.set_cons_zero, List.set_cons_succ, i64_w, i32_w]
                      rfl
                    clear hHeld
                    generalize X17.alloc (.cells #[.int .i64 0, .int .u16 0, .int .u16 0, .int .i64 0] 51) = X23 at HJ_23 ⊢
                    refine one_ (i := 3) (N := some 56) #[true, true, true, true, true, true, true, false, true, true, false, false] rfl rfl (one_of HT_.out (by kernel_rfl)) (by decide) (fun K hK => ?_)
                    refine goes_ Tryz.func18 (by kernel_rfl) rfl #[.agg #[.slice A a.length ca], .int .i64 (k : Int), .int .i64 (m : Int)] (by rfl) rfl rfl (by (try simp only [List.map_toArray, List.map_cons, List.map_nil]); first | done | rfl) ?_
                    refine (profile_At.calls A ca a (k : Int) (m : Int) _ _ _ _ X23 (Kd.C_below HRA.out HJ_23.out.ms.below) (by omega) (at_code a k m)).mono ?_
                    rintro e X24 ⟨rfl, hb24⟩
                    refine ⟨_, rfl, ?_⟩
                    have HJ_24 := Aside0.mk (HJ_23.out.next hb24)
                    clear hb24 HJ_23
                    refine hK.out _ _ ⟨(blk_cell HJ_24.out.ms.ba 0).trans rfl, (blk_cell HJ_24.out.ms.bb 0).trans rfl⟩ (fun hHeld => ?_)
                    clear hK K
                    refine norm_ (a' := ?_) ?_ ?_
                    rotate_left
                    · show Act.put _ (some 56) _ = _
                      simp only [Act.put, List.setIfInBounds_toArray, List.set_cons_zero, List.set_cons_succ, i64_w, i32_w]
                      rfl
                    clear hHeld
                    refine one_ (i := 7) (N := some 60) #[true, true, true, true, true, true, true, true, true, true, false, false] rfl rfl (one_of HT_.out (by kernel_rfl)) (by decide) (fun K hK => ?_)
                    refine goes_ Tryz.func18 (by kernel_rfl) rfl #[.agg #[.slice B b.length cb], .int .i64 (k : Int), .int .i64 (m : Int)] (by rfl) rfl rfl (by (try simp only [List.map_toArray, List.map_cons, List.map_nil]); first | done | rfl) ?_
                    refine (profile_At.calls B cb b (k : Int) (m : Int) _ _ _ _ X24 (Kd.C_below HRB.out HJ_24.out.ms.below) (by omega) (at_code b k m)).mono ?_
                    rintro e X25 ⟨rfl, hb25⟩
                    refine ⟨_, rfl, ?_⟩
                    have HJ_25 := Aside0.mk (HJ_24.out.next hb25)
                    clear hb25 HJ_24
                    refine hK.out _ _ ⟨(blk_cell HJ_25.out.ms.ba 0).trans rfl, (blk_cell HJ_25.out.ms.bb 0).trans rfl⟩ (fun hHeld => ?_)
                    clear hK K
                    refine norm_ (a' := ?_) ?_ ?_
                    rotate_left
                    · show Act.put _ (some 60) _ = _
                      simp only [Act.put, List.setIfInBounds_toArray, List.set_cons_zero, List.set_cons_succ, i64_w, i32_w]
                      rfl
                    clear hHeld
                    exact norm_ (by rfl) (HC.out (W16.heap.size, X17.heap.size) X25 HJ_25)
                · have HJ_26 : Aside0 (J w (.slice A a.length ca) (.slice B b.length cb) v (mpart a b k) H n (frow a b k m n) z51 z51 none (some W16.heap.size) (W16.alloc (.cells #[.int .i64 0, .int .u16 0, .int .u16 0, .int .i64 0] 51))) := ⟨HJ.out.new13⟩
                  clear HJ
                  refine value_ (w1 := ?_) (v := ?_) (by rfl) rfl ?_ ?_
                  rotate_left 2
                  · go_simp
                    constructor
                    · rfl
                    · rfl
                  refine hK.out _ _ ⟨(blk_cell HJ_26.out.ms.ba 0).trans rfl, (blk_cell HJ_26.out.ms.bb 0).trans rfl⟩ (fun hHeld => ?_)
                  clear hK K
                  refine norm_ (a' := ?_) ?_ ?_
                  rotate_left
                  · show Act.put _ (some 13) _ = _
                    simp only [Act.put, List.setIfInBounds_toArray, List.set_cons_zero, List.set_cons_succ, i64_w, i32_w]
                    rfl
                  clear hHeld
                  generalize W16.alloc (.cells #[.int .i64 0, .int .u16 0, .int .u16 0, .int .i64 0] 51) = X26 at HJ_26 ⊢
                  refine two_ (i := 3) (j := 8) (Ni := some 56) (Nj := some 12) #[true, true, true, true, true, true, true, false, false, true, false, false] #[true, true, true, false, true, true, true, false, true, true, false, false] rfl rfl rfl rfl (two_of HT_.out (by kernel_rfl)) (by decide) (by decide) (fun K hK => ?_) (fun K hK => ?_)
                  · refine goes_ Tryz.func18 (by kernel_rfl) rfl #[.agg #[.slice A a.length ca], .int .i64 (k : Int), .int .i64 (m : Int)] (by rfl) rfl rfl (by (try simp only [List.map_toArray, List.map_cons, List.map_nil]); first | done | rfl) ?_
                    refine (profile_At.calls A ca a (k : Int) (m : Int) _ _ _ _ X26 (Kd.C_below HRA.out HJ_26.out.ms.below) (by omega) (at_code a k m)).mono ?_
                    rintro e X27 ⟨rfl, hb27⟩
                    refine ⟨_, rfl, ?_⟩
                    have HJ_27 := Aside0.mk (HJ_26.out.next hb27)
                    clear hb27 HJ_26
                    refine hK.out _ _ ⟨(blk_cell HJ_27.out.ms.ba 0).trans rfl, (blk_cell HJ_27.out.ms.bb 0).trans rfl⟩ (fun hHeld => ?_)
                    clear hK K
                    refine norm_ (a' := ?_) ?_ ?_
                    rotate_left
                    · show Act.put _ (some 56) _ = _
                      simp only [Act.put, List.setIfInBounds_toArray, List.set_cons_zero, List.set_cons_succ, i64_w, i32_w]
                      rfl
                    clear hHeld
                    refine two_ (i := 7) (j := 8) (Ni := some 60) (Nj := some 12) #[true, true, true, true, true, true, true, true, false, true, false, false] #[true, true, true, true, true, true, true, false, true, true, false, false] rfl rfl rfl rfl (two_of HT_.out (by kernel_rfl)) (by decide) (by decide) (fun K hK => ?_) (fun K hK => ?_)
                    · refine goes_ Tryz.func18 (by kernel_rfl) rfl #[.agg #[.slice B b.length cb], .int .i64 (k : Int), .int .i64 (m : Int)] (by rfl) rfl rfl (by (try simp only [List.map_toArray, List.map_cons, List.map_nil]); first | done | rfl) ?_
                      refine (profile_At.calls B cb b (k : Int) (m : Int) _ _ _ _ X27 (Kd.C_below HRB.out HJ_27.out.ms.below) (by omega) (at_code b k m)).mono ?_
                      rintro e X28 ⟨rfl, hb28⟩
                      refine ⟨_, rfl, ?_⟩
                      have HJ_28 := Aside0.mk (HJ_27.out.next hb28)
                      clear hb28 HJ_27
                      refine hK.out _ _ ⟨(blk_cell HJ_28.out.ms.ba 0).trans rfl, (blk_cell HJ_28.out.ms.bb 0).trans rfl⟩ (fun hHeld => ?_)
                      clear hK K
                      refine norm_ (a' := ?_) ?_ ?_
                      rotate_left
                      · show Act.put _ (some 60) _ = _
                        simp only [Act.put, List.setIfInBounds_toArray, List.set_cons_zero, List.set_cons_succ, i64_w, i32_w]
                        rfl
                      clear hHeld
                      refine one_ (i := 8) (N := some 12) #[true, true, true, true, true, true, true, true, true, true, false, false] rfl rfl (one_of HT_.out (by kernel_rfl)) (by decide) (fun K hK => ?_)
                      have HJ_29 : Aside0 (J w (.slice A a.length ca) (.slice B b.length cb) v (mpart a b k) H n (frow a b k m n) z51 z51 (some X28.heap.size) (some W16.heap.size) (X28.alloc (.cells #[.int .i64 0, .int .u16 0, .int .u16 0, .int .i64 0] 51))) := ⟨HJ_28.out.new12⟩
                      clear HJ_28
                      refine value_ (w1 := ?_) (v := ?_) (by rfl) rfl ?_ ?_
                      rotate_left 2
                      · go_simp
                        constructor
                        · rfl
                        · rfl
                      refine hK.out _ _ ⟨(blk_cell HJ_29.out.ms.ba 0).trans rfl, (blk_cell HJ_29.out.ms.bb 0).trans rfl⟩ (fun hHeld => ?_)
                      clear hK K
                      refine norm_ (a' := ?_) ?_ ?_
                      rotate_left
                      · show Act.put _ (some 12) _ = _
                        simp only [Act.put, List.setIfInBounds_toArray, List.set_cons_zero, List.set_cons_succ, i64_w, i32_w]
                        rfl
                      clear hHeld
                      generalize X28.alloc (.cells #[.int .i64 0, .int .u16 0, .int .u16 0, .int .i64 0] 51) = X29 at HJ_29 ⊢
                      exact norm_ (by rfl) (HC.out (X28.heap.size, W16.heap.size) X29 HJ_29)
                    · have HJ_30 : Aside0 (J w (.slice A a.length ca) (.slice B b.length cb) v (mpart a b k) H n (frow a b k m n) z51 z51 (some X27.heap.size) (some W16.heap.size) (X27.alloc (.cells #[.int .i64 0, .int .u16 0, .int .u16 0, .int .i64 0] 51))) := ⟨HJ_27.out.new12⟩
                      clear HJ_27
                      refine value_ (w1 := ?_) (v := ?_) (by rfl) rfl ?_ ?_
                      rotate_left 2
                      · go_simp
                        constructor
                        · rfl
                        · rfl
                      refine hK.out _ _ ⟨(blk_cell HJ_30.out.ms.ba 0).trans rfl, (blk_cell HJ_30.out.ms.bb 0).trans rfl⟩ (fun hHeld => ?_)
                      clear hK K
                      refine norm_ (a' := ?_) ?_ ?_
                      rotate_left
                      · show Act.put _ (some 12) _ = _
                        simp only [Act.put, List.setIfInBounds_toArray, List.set_cons_zero, List.set_cons_succ, i64_w, i32_w]
                        rfl
                      clear hHeld
                      generalize X27.alloc (.cells #[.int .i64 0, .int .u16 0, .int .u16 0, .int .i64 0] 51) = X30 at HJ_30 ⊢
                      refine one_ (i := 7) (N := some 60) #[true, true, true, true, true, true, true, true, true, true, false, false] rfl rfl (one_of HT_.out (by kernel_rfl)) (by decide) (fun K hK => ?_)
                      refine goes_ Tryz.func18 (by kernel_rfl) rfl #[.agg #[.slice B b.length cb], .int .i64 (k : Int), .int .i64 (m : Int)] (by rfl) rfl rfl (by (try simp only [List.map_toArray, List.map_cons, List.map_nil]); first | done | rfl) ?_
                      refine (profile_At.calls B cb b (k : Int) (m : Int) _ _ _ _ X30 (Kd.C_below HRB.out HJ_30.out.ms.below) (by omega) (at_code b k m)).mono ?_
                      rintro e X31 ⟨rfl, hb31⟩
                      refine ⟨_, rfl, ?_⟩
                      have HJ_31 := Aside0.mk (HJ_30.out.next hb31)
                      clear hb31 HJ_30
                      refine hK.out _ _ ⟨(blk_cell HJ_31.out.ms.ba 0).trans rfl, (blk_cell HJ_31.out.ms.bb 0).trans rfl⟩ (fun hHeld => ?_)
                      clear hK K
                      refine norm_ (a' := ?_) ?_ ?_
                      rotate_left
                      · show Act.put _ (some 60) _ = _
                        simp only [Act.put, List.setIfInBounds_toArray, List.set_cons_zero, List.set_cons_succ, i64_w, i32_w]
                        rfl
                      clear hHeld
                      exact norm_ (by rfl) (HC.out (X27.heap.size, W16.heap.size) X31 HJ_31)
                  · have HJ_32 : Aside0 (J w (.slice A a.length ca) (.slice B b.length cb) v (mpart a b k) H n (frow a b k m n) z51 z51 (some X26.heap.size) (some W16.heap.size) (X26.alloc (.cells #[.int .i64 0, .int .u16 0, .int .u16 0, .int .i64 0] 51))) := ⟨HJ_26.out.new12⟩
                    clear HJ_26
                    refine value_ (w1 := ?_) (v := ?_) (by rfl) rfl ?_ ?_
                    rotate_left 2
                    · go_simp
                      constructor
                      · rfl
                      · rfl
                    refine hK.out _ _ ⟨(blk_cell HJ_32.out.ms.ba 0).trans rfl, (blk_cell HJ_32.out.ms.bb 0).trans rfl⟩ (fun hHeld => ?_)
                    clear hK K
                    refine norm_ (a' := ?_) ?_ ?_
                    rotate_left
                    · show Act.put _ (some 12) _ = _
                      simp only [Act.put, List.setIfInBounds_toArray, List.set_cons_zero, List.set_cons_succ, i64_w, i32_w]
                      rfl
                    clear hHeld
                    generalize X26.alloc (.cells #[.int .i64 0, .int .u16 0, .int .u16 0, .int .i64 0] 51) = X32 at HJ_32 ⊢
                    refine one_ (i := 3) (N := some 56) #[true, true, true, true, true, true, true, false, true, true, false, false] rfl rfl (one_of HT_.out (by kernel_rfl)) (by decide) (fun K hK => ?_)
                    refine goes_ Tryz.func18 (by kernel_rfl) rfl #[.agg #[.slice A a.length ca], .int .i64 (k : Int), .int .i64 (m : Int)] (by rfl) rfl rfl (by (try simp only [List.map_toArray, List.map_cons, List.map_nil]); first | done | rfl) ?_
                    refine (profile_At.calls A ca a (k : Int) (m : Int) _ _ _ _ X32 (Kd.C_below HRA.out HJ_32.out.ms.below) (by omega) (at_code a k m)).mono ?_
                    rintro e X33 ⟨rfl, hb33⟩
                    refine ⟨_, rfl, ?_⟩
                    have HJ_33 := Aside0.mk (HJ_32.out.next hb33)
                    clear hb33 HJ_32
                    refine hK.out _ _ ⟨(blk_cell HJ_33.out.ms.ba 0).trans rfl, (blk_cell HJ_33.out.ms.bb 0).trans rfl⟩ (fun hHeld => ?_)
                    clear hK K
                    refine norm_ (a' := ?_) ?_ ?_
                    rotate_left
                    · show Act.put _ (some 56) _ = _
                      simp only [Act.put, List.setIfInBounds_toArray, List.set_cons_zero, List.set_cons_succ, i64_w, i32_w]
                      rfl
                    clear hHeld
                    refine one_ (i := 7) (N := some 60) #[true, true, true, true, true, true, true, true, true, true, false, false] rfl rfl (one_of HT_.out (by kernel_rfl)) (by decide) (fun K hK => ?_)
                    refine goes_ Tryz.func18 (by kernel_rfl) rfl #[.agg #[.slice B b.length cb], .int .i64 (k : Int), .int .i64 (m : Int)] (by rfl) rfl rfl (by (try simp only [List.map_toArray, List.map_cons, List.map_nil]); first | done | rfl) ?_
                    refine (profile_At.calls B cb b (k : Int) (m : Int) _ _ _ _ X33 (Kd.C_below HRB.out HJ_33.out.ms.below) (by omega) (at_code b k m)).mono ?_
                    rintro e X34 ⟨rfl, hb34⟩
                    refine ⟨_, rfl, ?_⟩
                    have HJ_34 := Aside0.mk (HJ_33.out.next hb34)
                    clear hb34 HJ_33
                    refine hK.out _ _ ⟨(blk_cell HJ_34.out.ms.ba 0).trans rfl, (blk_cell HJ_34.out.ms.bb 0).trans rfl⟩ (fun hHeld => ?_)
                    clear hK K
                    refine norm_ (a' := ?_) ?_ ?_
                    rotate_left
                    · show Act.put _ (some 60) _ = _
                      simp only [Act.put, List.setIfInBounds_toArray, List.set_cons_zero, List.set_cons_succ, i64_w, i32_w]
                      rfl
                    clear hHeld
                    exact norm_ (by rfl) (HC.out (X26.heap.size, W16.heap.size) X34 HJ_34)
              clear HJ
              rintro ⟨g12, g13⟩ X HJ
              simp only at HJ
              refine norm_ (a' := ?_) ?_ ?_
              rotate_left
              · simp only [putAll, Act.put, List.setIfInBounds_toArray, List.set_cons_zero, List.set_cons_succ]
                rfl
              have HXR := Aside0.mk (HGA.out k m)
              have HYR := Aside0.mk (HGB.out k m)
              have HF := Aside0.mk (frow_set a b k m n)
              generalize gt a k m = x at HXR HF ⊢
              generalize gt b k m = y at HYR HF ⊢
              refine one_ (i := 10) (N := none) #[true, true, true, true, true, true, true, true, true, true, true, false] rfl rfl (one_of HT_.out (by kernel_rfl)) (by decide) (fun K hK => ?_)
              refine skip_ (w1 := X.setCells g12 0 (spc x).toList) (by rfl) rfl ((HJ.out.put12 x).1 (.tmp 12) (.tmp 56) rfl rfl rfl) ?_
              replace HJ := Aside0.mk (HJ.out.put12 x).2
              generalize X.setCells g12 0 (spc x).toList = X1 at HJ ⊢
              refine hK.out _ _ ⟨(blk_cell HJ.out.ms.ba 0).trans rfl, (blk_cell HJ.out.ms.bb 0).trans rfl⟩ (fun hHeld => ?_)
              clear hK K
              refine one_ (i := 11) (N := none) #[true, true, true, true, true, true, true, true, true, true, true, true] rfl rfl (one_of HT_.out (by kernel_rfl)) (by decide) (fun K hK => ?_)
              refine skip_ (w1 := X1.setCells g13 0 (spc y).toList) (by rfl) rfl ((HJ.out.put13 y).1 (.tmp 13) (.tmp 60) rfl rfl rfl) ?_
              replace HJ := Aside0.mk (HJ.out.put13 y).2
              generalize X1.setCells g13 0 (spc y).toList = X2 at HJ ⊢
              refine hK.out _ _ ⟨(blk_cell HJ.out.ms.ba 0).trans rfl, (blk_cell HJ.out.ms.bb 0).trans rfl⟩ (fun hHeld => ?_)
              clear hK K
              refine done_ (done_of HT_.out (by kernel_rfl)) ?_
              clear hHeld
              go_wp2_with fail
              replace HJ := Aside0.mk (HJ.out.next (below_drew (Below.refl _ X2)))
              have hm0 : (0 : Int) ≤ (m : Int) := by omega
              have hm1 : (m : Int) < (n : Int) := by omega
              refine start_ (n := 25) (S := fun w' => w'.cell? ⟨g12, 0, none⟩ = some (.int .i64 x.f0) ∧ w'.cell? ⟨g12, 1, none⟩ = some (.int .u16 x.f1) ∧ w'.cell? ⟨g12, 2, none⟩ = some (.int .u16 x.f2) ∧ w'.cell? ⟨g12, 3, none⟩ = some (.int .i64 x.f3) ∧ w'.cell? ⟨g13, 0, none⟩ = some (.int .i64 y.f0) ∧ w'.cell? ⟨g13, 1, none⟩ = some (.int .u16 y.f1) ∧ w'.cell? ⟨g13, 2, none⟩ = some (.int .u16 y.f2) ∧ w'.cell? ⟨g13, 3, none⟩ = some (.int .i64 y.f3)) (ds := [24]) #[false, false, false, false, false, false, false, false, false, false, false, false, false, false, false, false, false, false, false, false, false, false, false, false, false] (by kernel_rfl) rfl rfl ⟨(cell_of (HJ.out.b12 g12 rfl).2).1, (cell_of (HJ.out.b12 g12 rfl).2).2.1, (cell_of (HJ.out.b12 g12 rfl).2).2.2.1, (cell_of (HJ.out.b12 g12 rfl).2).2.2.2, (cell_of (HJ.out.b13 g13 rfl).2).1, (cell_of (HJ.out.b13 g13 rfl).2).2.1, (cell_of (HJ.out.b13 g13 rfl).2).2.2.1, (cell_of (HJ.out.b13 g13 rfl).2).2.2.2⟩ (fun hHeld => ?_)
              refine with_tabW r8_17_tab r8_17_bits (fun HT_ HW_ => ?_)
              generalize World.drew X2 = W17 at HJ hHeld ⊢
              refine pure_ (i := 0) (N := some 61) (v := ?_) (a' := ?_) #[true, false, false, false, false, false, false, false, false, false, false, false, false, false, false, false, false, false, false, false, false, false, false, false, false] rfl rfl (any_of HT_.out (by kernel_rfl)) (fun _ _ _ h => h) (Or.inl ⟨by rfl, ?_⟩) ?_ ?_
              rotate_left
              · intro w'
                go_simp
                with_reducible rfl
              rotate_left
              · simp only [Act.put, List.setIfInBounds_toArray, List.set_cons_zero, List.set_cons_succ, i64_w, i32_w]
                rfl
              refine pure_ (i := 1) (N := some 62) (v := ?_) (a' := ?_) #[true, true, false, false, false, false, false, false, false, false, false, false, false, false, false, false, false, false, false, false, false, false, false, false, false] rfl rfl (any_of HT_.out (by kernel_rfl)) (fun _ _ _ h => h) (Or.inl ⟨by rfl, ?_⟩) ?_ ?_
              rotate_left
              · intro w'
                go_simp
                with_reducible rfl
              rotate_left
              · simp only [Act.put, List.setIfInBounds_toArray, List.set_cons_zero, List.set_cons_succ, i64_w, i32_w]
                rfl
              refine pure_ (i := 2) (N := some 63) (v := ?_) (a' := ?_) #[true, true, true, false, false, false, false, false, false, false, false, false, false, false, false, false, false, false, false, false, false, false, false, false, false] rfl rfl (any_of HT_.out (by kernel_rfl)) (fun _ _ _ h => h) (Or.inl ⟨by rfl, ?_⟩) ?_ ?_
              rotate_left
              · intro w'
                go_simp
                with_reducible rfl
              rotate_left
              · simp only [Act.put, List.setIfInBounds_toArray, List.set_cons_zero, List.set_cons_succ, i64_w, i32_w]
                rfl
              refine pure_ (i := 4) (N := some 65) (v := ?_) (a' := ?_) #[true, true, true, false, true, false, false, false, false, false, false, false, false, false, false, false, false, false, false, false, false, false, false, false, false] rfl rfl (any_of HT_.out (by kernel_rfl)) (fun _ _ _ h => h) (Or.inl ⟨by rfl, ?_⟩) ?_ ?_
              rotate_left
              · intro w'
                go_simp
                with_reducible rfl
              rotate_left
              · simp only [Act.put, List.setIfInBounds_toArray, List.set_cons_zero, List.set_cons_succ, i64_w, i32_w]
                rfl
              refine pure_ (i := 7) (N := some 68) (v := ?_) (a' := ?_) #[true, true, true, false, true, false, false, true, false, false, false, false, false, false, false, false, false, false, false, false, false, false, false, false, false] rfl rfl (any_of HT_.out (by kernel_rfl)) (fun _ _ _ h => h) (Or.inl ⟨by rfl, ?_⟩) ?_ ?_
              rotate_left
              · intro w'
                go_simp
                with_reducible rfl
              rotate_left
              · simp only [Act.put, List.setIfInBounds_toArray, List.set_cons_zero, List.set_cons_succ, i64_w, i32_w]
                rfl
              refine pure_ (i := 9) (N := some 70) (v := ?_) (a' := ?_) #[true, true, true, false, true, false, false, true, false, true, false, false, false, false, false, false, false, false, false, false, false, false, false, false, false] rfl rfl (any_of HT_.out (by kernel_rfl)) (fun _ _ _ h => h) (Or.inl ⟨by rfl, ?_⟩) ?_ ?_
              rotate_left
              · intro w'
                go_simp
                with_reducible rfl
              rotate_left
              · simp only [Act.put, List.setIfInBounds_toArray, List.set_cons_zero, List.set_cons_succ, i64_w, i32_w]
                rfl
              refine pure_ (i := 12) (N := some 73) (v := ?_) (a' := ?_) #[true, true, true, false, true, false, false, true, false, true, false, false, true, false, false, false, false, false, false, false, false, false, false, false, false] rfl rfl (any_of HT_.out (by kernel_rfl)) (fun _ _ _ h => h) (Or.inl ⟨by rfl, ?_⟩) ?_ ?_
              rotate_left
              · intro w'
                go_simp
                with_reducible rfl
              rotate_left
              · simp only [Act.put, List.setIfInBounds_toArray, List.set_cons_zero, List.set_cons_succ, i64_w, i32_w]
                rfl
              refine pure_ (i := 14) (N := some 75) (v := ?_) (a' := ?_) #[true, true, true, false, true, false, false, true, false, true, false, false, true, false, true, false, false, false, false, false, false, false, false, false, false] rfl rfl (any_of HT_.out (by kernel_rfl)) (fun _ _ _ h => h) (Or.inl ⟨by rfl, ?_⟩) ?_ ?_
              rotate_left
              · intro w'
                go_simp
                with_reducible rfl
              rotate_left
              · simp only [Act.put, List.setIfInBounds_toArray, List.set_cons_zero, List.set_cons_succ, i64_w, i32_w]
                rfl
              refine pure_ (i := 17) (N := some 78) (v := ?_) (a' := ?_) #[true, true, true, false, true, false, false, true, false, true, false, false, true, false, true, false, false, true, false, false, false, false, false, false, false] rfl rfl (any_of HT_.out (by kernel_rfl)) (fun _ _ _ h => h) (Or.inl ⟨by rfl, ?_⟩) ?_ ?_
              rotate_left
              · intro w'
                go_simp
                with_reducible rfl
              rotate_left
              · simp only [Act.put, List.setIfInBounds_toArray, List.set_cons_zero, List.set_cons_succ, i64_w, i32_w]
                rfl
              refine pure_ (i := 19) (N := some 80) (v := ?_) (a' := ?_) #[true, true, true, false, true, false, false, true, false, true, false, false, true, false, true, false, false, true, false, true, false, false, false, false, false] rfl rfl (any_of HT_.out (by kernel_rfl)) (fun _ _ _ h => h) (Or.inl ⟨by rfl, ?_⟩) ?_ ?_
              rotate_left
              · intro w'
                go_simp
                with_reducible rfl
              rotate_left
              · simp only [Act.put, List.setIfInBounds_toArray, List.set_cons_zero, List.set_cons_succ, i64_w, i32_w]
                rfl
              refine take_ (i := 3) (N := some 64) (v := ?_) (a' := ?_) #[true, true, true, true, true, false, false, true, false, true, false, false, true, false, true, false, false, true, false, true, false, false, false, false, false] rfl rfl (take_ofW HT_.out HW_.out (by kernel_rfl)) (fun _ _ _ h => h) (Or.inl ⟨by rfl, ?_⟩) hHeld ?_ ?_
              rotate_left
              · rintro w' ⟨s0, s1, s2, s3, s4, s5, s6, s7⟩
                go_simp
                with_reducible rfl
              rotate_left
              · simp only [Act.put, List.setIfInBounds_toArray, List.set_cons_zero, List.set_cons_succ, i64_w, i32_w]
                rfl
              refine take_ (i := 5) (N := some 66) (v := ?_) (a' := ?_) #[true, true, true, true, true, true, false, true, false, true, false, false, true, false, true, false, false, true, false, true, false, false, false, false, false] rfl rfl (take_ofW HT_.out HW_.out (by kernel_rfl)) (fun _ _ _ h => h) (Or.inl ⟨by rfl, ?_⟩) hHeld ?_ ?_
              rotate_left
              · rintro w' ⟨s0, s1, s2, s3, s4, s5, s6, s7⟩
                go_simp
                with_reducible rfl
              rotate_left
              · simp only [Act.put, List.setIfInBounds_toArray, List.set_cons_zero, List.set_cons_succ, i64_w, i32_w]
                rfl
              refine take_ (i := 8) (N := some 69) (v := ?_) (a' := ?_) #[true, true, true, true, true, true, false, true, true, true, false, false, true, false, true, false, false, true, false, true, false, false, false, false, false] rfl rfl (take_ofW HT_.out HW_.out (by kernel_rfl)) (fun _ _ _ h => h) (Or.inl ⟨by rfl, ?_⟩) hHeld ?_ ?_
              rotate_left
              · rintro w' ⟨s0, s1, s2, s3, s4, s5, s6, s7⟩
                go_simp
                with_reducible rfl
              rotate_left
              · simp only [Act.put, List.setIfInBounds_toArray, List.set_cons_zero, List.set_cons_succ, i64_w, i32_w]
                rfl
              refine take_ (i := 10) (N := some 71) (v := ?_) (a' := ?_) #[true, true, true, true, true, true, false, true, true, true, true, false, true, false, true, false, false, true, false, true, false, false, false, false, false] rfl rfl (take_ofW HT_.out HW_.out (by kernel_rfl)) (fun _ _ _ h => h) (Or.inl ⟨by rfl, ?_⟩) hHeld ?_ ?_
              rotate_left
              · rintro w' ⟨s0, s1, s2, s3, s4, s5, s6, s7⟩
                go_simp
                with_reducible rfl
              rotate_left
              · simp only [Act.put, List.setIfInBounds_toArray, List.set_cons_zero, List.set_cons_succ, i64_w, i32_w]
                rfl
              refine take_ (i := 13) (N := some 74) (v := ?_) (a' := ?_) #[true, true, true, true, true, true, false, true, true, true, true, false, true, true, true, false, false, true, false, true, false, false, false, false, false] rfl rfl (take_ofW HT_.out HW_.out (by kernel_rfl)) (fun _ _ _ h => h) (Or.inl ⟨by rfl, ?_⟩) hHeld ?_ ?_
              rotate_left
              · rintro w' ⟨s0, s1, s2, s3, s4, s5, s6, s7⟩
                go_simp
                with_reducible rfl
              rotate_left
              · simp only [Act.put, List.setIfInBounds_toArray, List.set_cons_zero, List.set_cons_succ, i64_w, i32_w]
                rfl
              refine take_ (i := 15) (N := some 76) (v := ?_) (a' := ?_) #[true, true, true, true, true, true, false, true, true, true, true, false, true, true, true, true, false, true, false, true, false, false, false, false, false] rfl rfl (take_ofW HT_.out HW_.out (by kernel_rfl)) (fun _ _ _ h => h) (Or.inl ⟨by rfl, ?_⟩) hHeld ?_ ?_
              rotate_left
              · rintro w' ⟨s0, s1, s2, s3, s4, s5, s6, s7⟩
                go_simp
                with_reducible rfl
              rotate_left
              · simp only [Act.put, List.setIfInBounds_toArray, List.set_cons_zero, List.set_cons_succ, i64_w, i32_w]
                rfl
              refine take_ (i := 18) (N := some 79) (v := ?_) (a' := ?_) #[true, true, true, true, true, true, false, true, true, true, true, false, true, true, true, true, false, true, true, true, false, false, false, false, false] rfl rfl (take_ofW HT_.out HW_.out (by kernel_rfl)) (fun _ _ _ h => h) (Or.inl ⟨by rfl, ?_⟩) hHeld ?_ ?_
              rotate_left
              · rintro w' ⟨s0, s1, s2, s3, s4, s5, s6, s7⟩
                go_simp
                with_reducible rfl
              rotate_left
              · simp only [Act.put, List.setIfInBounds_toArray, List.set_cons_zero, List.set_cons_succ, i64_w, i32_w]
                rfl
              refine take_ (i := 20) (N := some 81) (v := ?_) (a' := ?_) #[true, true, true, true, true, true, false, true, true, true, true, false, true, true, true, true, false, true, true, true, true, false, false, false, false] rfl rfl (take_ofW HT_.out HW_.out (by kernel_rfl)) (fun _ _ _ h => h) (Or.inl ⟨by rfl, ?_⟩) hHeld ?_ ?_
              rotate_left
              · rintro w' ⟨s0, s1, s2, s3, s4, s5, s6, s7⟩
                go_simp
                with_reducible rfl
              rotate_left
              · simp only [Act.put, List.setIfInBounds_toArray, List.set_cons_zero, List.set_cons_succ, i64_w, i32_w]
                rfl
              refine pure_ (i := 11) (N := some 72) (v := ?_) (a' := ?_) #[true, true, true, true, true, true, false, true, true, true, true, true, true, true, true, true, false, true, true, true, true, false, false, false, false] rfl rfl (any_of HT_.out (by kernel_rfl)) (fun _ _ _ h => h) (Or.inl ⟨by rfl, ?_⟩) ?_ ?_
              rotate_left
              · intro w'
                go_simp
                with_reducible rfl
              rotate_left
              · simp only [Act.put, List.setIfInBounds_toArray, List.set_cons_zero, List.set_cons_succ, i64_w, i32_w]
                rfl
              refine pure_ (i := 16) (N := some 77) (v := ?_) (a' := ?_) #[true, true, true, true, true, true, false, true, true, true, true, true, true, true, true, true, true, true, true, true, true, false, false, false, false] rfl rfl (any_of HT_.out (by kernel_rfl)) (fun _ _ _ h => h) (Or.inl ⟨by rfl, ?_⟩) ?_ ?_
              rotate_left
              · intro w'
                go_simp
                with_reducible rfl
              rotate_left
              · simp only [Act.put, List.setIfInBounds_toArray, List.set_cons_zero, List.set_cons_succ, i64_w, i32_w]
                rfl
              refine one_ (i := 6) (N := some 67) #[true, true, true, true, true, true, true, true, true, true, true, true, true, true, true, true, true, true, true, true, true, false, false, false, false] rfl rfl (one_of HT_.out (by kernel_rfl)) (by decide) (fun K hK => ?_)
              refine goes_ Tryz.func33 (by kernel_rfl) rfl #[.int .i64 x.f0, .int .i64 y.f0] (by rfl) rfl rfl (by (try simp only [List.map_toArray, List.map_cons, List.map_nil]); first | done | rfl) ?_
              refine (profile_added.calls 1 x.f0 y.f0 _ W17 (added_code HXR.out HYR.out)).mono ?_
              rintro e X3 ⟨rfl, hd⟩
              refine ⟨_, rfl, ?_⟩
              replace HJ := Aside0.mk (HJ.out.next hd.below)
              clear hd
              refine hK.out _ _ ⟨(cell_of (HJ.out.b12 g12 rfl).2).1, (cell_of (HJ.out.b12 g12 rfl).2).2.1, (cell_of (HJ.out.b12 g12 rfl).2).2.2.1, (cell_of (HJ.out.b12 g12 rfl).2).2.2.2, (cell_of (HJ.out.b13 g13 rfl).2).1, (cell_of (HJ.out.b13 g13 rfl).2).2.1, (cell_of (HJ.out.b13 g13 rfl).2).2.2.1, (cell_of (HJ.out.b13 g13 rfl).2).2.2.2⟩ (fun hHeld => ?_)
              clear hK K
              refine norm_ (a' := ?_) ?_ ?_
              rotate_left
              · show Act.put _ (some 67) _ = _
                simp only [Act.put, List.setIfInBounds_toArray, List.set_cons_zero, List.set_cons_succ, i64_w, i32_w]
                rfl
              refine one_ (i := 21) (N := some 82) #[true, true, true, true, true, true, true, true, true, true, true, true, true, true, true, true, true, true, true, true, true, true, false, false, false] rfl rfl (one_of HT_.out (by kernel_rfl)) (by decide) (fun K hK => ?_)
              refine goes_ Tryz.func34 (by kernel_rfl) rfl #[.int .i64 x.f3, .int .i64 y.f3] (by rfl) rfl rfl (by (try simp only [List.map_toArray, List.map_cons, List.map_nil]); first | done | rfl) ?_
              refine (profile_callees.calls x.f3 y.f3 _ X3 (callees_code x.f3 y.f3)).mono ?_
              rintro e X4 ⟨rfl, hd⟩
              refine ⟨_, rfl, ?_⟩
              replace HJ := Aside0.mk (HJ.out.next hd.below)
              clear hd
              refine hK.out _ _ ⟨(cell_of (HJ.out.b12 g12 rfl).2).1, (cell_of (HJ.out.b12 g12 rfl).2).2.1, (cell_of (HJ.out.b12 g12 rfl).2).2.2.1, (cell_of (HJ.out.b12 g12 rfl).2).2.2.2, (cell_of (HJ.out.b13 g13 rfl).2).1, (cell_of (HJ.out.b13 g13 rfl).2).2.1, (cell_of (HJ.out.b13 g13 rfl).2).2.2.1, (cell_of (HJ.out.b13 g13 rfl).2).2.2.2⟩ (fun hHeld => ?_)
              clear hK K
              refine norm_ (a' := ?_) ?_ ?_
              rotate_left
              · show Act.put _ (some 82) _ = _
                simp only [Act.put, List.setIfInBounds_toArray, List.set_cons_zero, List.set_cons_succ, i64_w, i32_w]
                rfl
              refine pure_ (i := 22) (N := some 83) (v := ?_) (a' := ?_) #[true, true, true, true, true, true, true, true, true, true, true, true, true, true, true, true, true, true, true, true, true, true, true, false, false] rfl rfl (any_of HT_.out (by kernel_rfl)) (fun _ _ _ h => h) (Or.inl ⟨by rfl, ?_⟩) ?_ ?_
              rotate_left
              · intro w'
                go_simp
                with_reducible rfl
              rotate_left
              · simp only [Act.put, List.setIfInBounds_toArray, List.set_cons_zero, List.set_cons_succ, i64_w, i32_w]
                rfl
              refine pure_ (i := 23) (N := some 84) (v := ?_) (a' := ?_) #[true, true, true, true, true, true, true, true, true, true, true, true, true, true, true, true, true, true, true, true, true, true, true, true, false] rfl rfl (any_of HT_.out (by kernel_rfl)) (fun _ _ _ h => h) (Or.inl ⟨by rfl, ?_⟩) ?_ ?_
              rotate_left
              · intro w'
                go_simp
                with_reducible rfl
              rotate_left
              · simp only [Act.put, List.setIfInBounds_toArray, List.set_cons_zero, List.set_cons_succ, i64_w, i32_w]
                rfl
              refine last_ (i := 24) (N := none) #[true, true, true, true, true, true, true, true, true, true, true, true, true, true, true, true, true, true, true, true, true, true, true, true, true] rfl rfl (one_of HT_.out (by kernel_rfl)) (by decide) (fun K hK => ?_)
              refine skip_ (w1 := X4.setCells H (m * 4) (spc (spM x y)).toList) (by rfl) rfl ((HJ.out.putRow hlm (spM x y)).1 (.tmp 84) (.tmp 83) rfl rfl rfl) ?_
              refine hK.out _ _ ?_
              clear hK K
              refine done_ (done_of HT_.out (by kernel_rfl)) ?_
              have HJ2 : Aside0 (J w (.slice A a.length ca) (.slice B b.length cb) v (mpart a b k) H n (frow a b k (m + 1) n) z51 z51 none none (X4.setCells H (m * 4) (spc (spM x y)).toList)) := ⟨⟨(HJ.out.putRow hlm (spM x y)).2.1, by
                have := (HJ.out.putRow hlm (spM x y)).2.2
                rwa [HF.out] at this, fun g hg => (by cases hg), fun g hg => (by cases hg), fun g g' hg => (by cases hg)⟩⟩
              clear HJ HF HXR HYR hHeld
              generalize X4.setCells H (m * 4) (spc (spM x y)).toList = X5 at HJ2 ⊢
              go_wp2_with fail
              go_roundw
              case rel => exact ⟨m + 1, by omega, by go_num, HJ2⟩
              case measure => simp [intOf]; omega
            · obtain rfl : m = n := by omega
              have hc5 : wr.cell? ⟨w.heap.size + 1 + 1 + 1, 0, none⟩ = some v := (blk_cell HJ.out.ms.b5 0).trans rfl
              have hkl : ((mpart a b k).length + 1) * 24 ≤ 140737488355328 := by rw [mpart_len]; omega
              have HV : Aside0 (∀ q, q = H → True ∧ some q ≠ v.ownBlock) := ⟨fun q hq => ⟨trivial, fun e => by have := (Kd.S_R HJ.out.ms.rows).1 q e.symm; omega⟩⟩
              have HO : Aside0 (Kd.S kr 53 wr w.heap.size (fun q => True ∧ ¬ q = H) v (mpart a b k)) := ⟨Kd.S_mono HJ.out.ms.rows (fun q hq => ⟨trivial, by omega⟩)⟩
              go_wp2_with (first | (at_builtin; refine Aside0.out (p := _) ?_) | go_in)
              refine Aside0.mk ?_
              refine S_append kr (w0 := w) (W := wr) w.heap.size rfl (.tmp 87) (.tmp 89) 23 53 (.slice none 0 0) 24 rfl Tryz.underlying23 info53_ rfl (by decide) (by omega) v (mpart a b k) (frow a b k m m) [.slice (some ⟨H, 0, none⟩) m m] (fun _ => True) (fun q => q = H) rfl rfl ⟨_, rfl, HJ.out.row⟩ HV.out (fun _ _ => trivial) HO.out HJ.out.ms.below HJ.out.ms.below.size hkl ?_
              intro v2 w2 ho hb hg hat
              have BA := Aside0.mk (blk_grown HJ.out.ms.ba hg (Kd.S_ne HJ.out.ms.rows HJ.out.ms.ba (by decide)))
              have BB := Aside0.mk (blk_grown HJ.out.ms.bb hg (Kd.S_ne HJ.out.ms.rows HJ.out.ms.bb (by decide)))
              have B4 := Aside0.mk (blk_grown HJ.out.ms.b4 hg (Kd.S_ne HJ.out.ms.rows HJ.out.ms.b4 (by decide)))
              have B5 := Aside0.mk (blk_grown HJ.out.ms.b5 hg (Kd.S_ne HJ.out.ms.rows HJ.out.ms.b5 (by decide)))
              have HO2 : Aside0 (Kd.S kr 53 w2 w.heap.size (fun _ => True) v2 (mpart a b (k + 1))) := ⟨by rw [mpart_succ, ← HNR.out]; exact ho⟩
              have HB2 := Aside0.mk hb
              clear ho hb hg hat HJ HV HO hc5 hkl HNR
              have hs5 : w2.cell? ⟨w.heap.size + 1 + 1 + 1, 0, none⟩ = some v := (blk_cell B5.out 0).trans rfl
              have hf5 := blk_frozen B5.out 0
              obtain ⟨A2, n2, c2, rfl⟩ : ∃ A2 n2 c2, v2 = .slice A2 n2 c2 := by
                obtain ⟨A2, c2, h⟩ := Kd.S_slice HO2.out
                exact ⟨A2, _, c2, h⟩
              go_wp2_with fail
              clear hs5 hf5
              have HI3 : Aside0 (MS w (.slice A a.length ca) (.slice B b.length cb) (.slice A2 n2 c2) (mpart a b (k + 1)) (fun _ => True) (w2.setCell ⟨w.heap.size + 1 + 1 + 1, 0, none⟩ (.slice A2 n2 c2))) :=
                ⟨⟨blk_far BA.out (p := ⟨w.heap.size + 1 + 1 + 1, 0, none⟩) (by show w.heap.size ≠ w.heap.size + 1 + 1 + 1; omega) _, blk_far BB.out (p := ⟨w.heap.size + 1 + 1 + 1, 0, none⟩) (by show w.heap.size + 1 ≠ w.heap.size + 1 + 1 + 1; omega) _, blk_far B4.out (p := ⟨w.heap.size + 1 + 1 + 1, 0, none⟩) (by show w.heap.size + 1 + 1 ≠ w.heap.size + 1 + 1 + 1; omega) _, blk_put B5.out 0 _ rfl, Kd.S_set HO2.out B5.out (by decide) 0 _, below_set HB2.out (by show w.heap.size ≤ w.heap.size + 1 + 1 + 1; omega)⟩⟩
              go_roundw
              case rel => exact ⟨k + 1, by omega, by go_num, _, HI3⟩
              case measure => simp [intOf]; omega
    · obtain rfl : k = N := by omega
      have hmN : mpart a b k = mergeF a b := by unfold mergeF; rw [HN.out]
      obtain ⟨Av, cv, hv⟩ := Kd.S_slice HI.out.rows
      rw [mpart_len] at hv
      subst hv
      have hc5 : wr.cell? ⟨w.heap.size + 1 + 1 + 1, 0, none⟩ = some (.slice Av k cv) := (blk_cell HI.out.b5 0).trans rfl
      have hc4 : wr.cell? ⟨w.heap.size + 1 + 1, 0, none⟩ = some (.slice none 0 0) := (blk_cell HI.out.b4 0).trans rfl
      have hf4 := blk_frozen HI.out.b4 0
      have HM := Aside0.mk hmN
      clear hmN
      go_wp2_with fail
      refine bodyPost_ret (results_cell_row rfl _ _ (w.heap.size + 1 + 1) 25 #[.slice Av k cv] (0, 0) _ rfl (blk_put HI.out.b4 0 _ rfl) Tryz.underlying25 rfl (by kernel_rfl)) rfl ?_
      have hR := Kd.S_bound (Kd.S_set HI.out.rows HI.out.b4 (by decide) 0 (.slice Av k cv))
      rw [HM.out] at hR
      exact ⟨_, rfl, Kd.S_mono hR (fun _ hk => hk.2.1), below_set HI.out.below (by show w.heap.size ≤ w.heap.size + 1 + 1; omega)⟩
end Go.Proofs.YtjeaojolhdfpeaaGreat.MergeW
