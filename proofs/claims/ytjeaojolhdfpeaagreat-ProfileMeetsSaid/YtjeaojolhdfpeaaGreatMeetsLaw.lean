/- ProfileMeets, walked: function 4. -/
import Derived.Test.YtjeaojolhdfpeaaGreatMeetsP
import Derived.Test.YtjeaojolhdfpeaaGreatMergeW
import Derived.Test.YtjeaojolhdfpeaaGreatFormsF
import Derived.Test.YtjeaojolhdfpeaaGreatFormsS
namespace Go.Proofs.YtjeaojolhdfpeaaGreat.MeetsLaw
open Go.RowKit Go.Maps Go.Proofs.YtjeaojolhdfpeaaGreatW.PrintWords Go.Proofs.YtjeaojolhdfpeaaGreatW.PrintLast Go.Proofs.YtjeaojolhdfpeaaGreatW.PrintMore
open Go.Proofs.YtjeaojolhdfpeaaGreat.PProfileMeets Go.Proofs.YtjeaojolhdfpeaaGreat.BookB Go.Proofs.YtjeaojolhdfpeaaGreat.BookN Go.Proofs.YtjeaojolhdfpeaaGreat.BookP Go.Proofs.YtjeaojolhdfpeaaGreat.MergeP Go.Proofs.YtjeaojolhdfpeaaGreat.MergeW Go.Proofs.YtjeaojolhdfpeaaGreat.MeetsP
open Go.Proofs.YtjeaojolhdfpeaaGreat.Form (Rg)
set_option linter.unusedVariables false
set_option linter.unusedSimpArgs false

abbrev Sz : Nat := 5864062014634
theorem i64_of {l : List (List S51)} (h : RgP l) : ∀ x ∈ l, ∀ s ∈ x, I64 s.f0 := fun x hx s hs => (h x hx s hs).1
/-- A profile that is read. -/
structure Rd (W : World) (A : Option Addr) (c : Nat) (l : List (List S51)) : Prop where
  reads : Kd.C (Kd.slice 51 k51) W A l.length l
  cap : l.length ≤ c
  rg : RgP l
  len : l.length ≤ Sz
  rows : ∀ x ∈ l, x.length ≤ Sz
theorem Rd.below {W W1 : World} {A : Option Addr} {c : Nat} {l : List (List S51)} (h : Rd W A c l) (hb : Below W.heap.size W W1) : Rd W1 A c l := ⟨Kd.C_below h.reads hb, h.cap, h.rg, h.len, h.rows⟩
theorem Rd.nil (W : World) : Rd W none 0 [] := ⟨Kd.C_nil _ _, Nat.le_refl _, (fun x hx => by cases hx), Nat.zero_le _, (fun x hx => by cases hx)⟩
theorem merges {A B : Option Addr} {ca cb : Nat} {a b : List (List S51)} {w : World} (ha : Rd w A ca a) (hb : Rd w B cb b) :
    Calls Tryz.prog 8 #[.agg #[.slice A a.length ca], .agg #[.slice B b.length cb]] w fun e w' => ∃ X c, e = .returned (.agg #[.slice X (mergeF a b).length c]) ∧ Rd w' X c (mergeF a b) ∧ Below w.heap.size w w' := by
  refine (merge_calls A ca a B cb b w ha.reads ha.cap hb.reads hb.cap (i64_of ha.rg) (i64_of hb.rg) ha.len hb.len ha.rows hb.rows).mono ?_
  rintro e w' ⟨v, rfl, hs, hb2⟩
  obtain ⟨X, c, rfl⟩ := Kd.S_slice hs
  have h1 := Kd.S_reads' hs
  refine ⟨X, c, rfl, ⟨h1.2.2, h1.2.1, merge_Rg ha.rg hb.rg, ?_, row_max a b ha.rows hb.rows⟩, hb2⟩
  rw [merge_len]
  have := ha.len
  have := hb.len
  omega
theorem sames {A B : Option Addr} {ca cb : Nat} {a b : List (List S51)} {w : World} (ha : Rd w A ca a) (hb : Rd w B cb b) (e : a = b) :
    Calls Tryz.prog 9 #[.agg #[.slice A a.length ca], .agg #[.slice B b.length cb]] w fun e w' => e = .returned (.bool true) ∧ Below w.heap.size w w' := by
  subst e
  obtain ⟨k, hk⟩ := SameZ.same_read ha.reads
  exact portageref0_SameProfile.calls k A ca a B cb a true w ha.reads ha.cap hb.reads hb.cap hk
theorem counts {A : Option Addr} {ca : Nat} {a : List (List S51)} {w : World} (ha : Rd w A ca a) :
    ∃ r : Bool, (r = true → Cn a) ∧ ∀ W, Below w.heap.size w W → Calls Tryz.prog 10 #[.agg #[.slice A a.length ca]] W fun e w' => e = .returned (.bool r) ∧ Below W.heap.size W w' := by
  obtain ⟨k, r, hk, hr⟩ := counted_some a (by have := ha.len; unfold Sz at this; omega) (fun x hx => by have := ha.rows x hx; unfold Sz at this; omega)
  exact ⟨r, hr, fun W hb => portagelaw18_counted.calls k A ca a r W (Kd.C_below ha.reads hb) ha.cap hk⟩
def r4_2_T : Bool × List (List Nat × List Nat) := (true, [([], []), ([], []), ([], []), ([1, 2], [1, 2]), ([0, 3, 3], [0, 3]), ([4], [4]), ([5, 4], [5]), ([6], [6]), ([6], [6]), ([7, 8, 6, 6], [6, 7, 8]), ([6], [6]), ([9, 10, 9, 6], [6, 9, 10]), ([11, 6], [6, 11]), ([6, 12], [6, 12]), ([13, 11], [13]), ([14], [14]), ([14], [14]), ([15, 16, 14, 14], [14, 15, 16]), ([14], [14]), ([17, 18, 17, 14], [14, 17, 18]), ([19, 14], [14, 19]), ([14, 20], [14, 20])])
def r4_2_B : List Nat := [0, 0, 0, 6, 15, 31, 63, 127, 127, 511, 127, 2047, 4095, 8191, 16383, 32767, 32767, 131071, 32767, 524287, 1048575, 2097151]
theorem r4_2_tab : rtab .any (opsOf Tryz.f4 2) = r4_2_T := by kernel_rfl
theorem r4_2_bits : waitsOk r4_2_T.2 r4_2_B = true := by kernel_rfl
def r4_6_T : Bool × List (List Nat × List Nat) := (true, [([], []), ([], []), ([0, 1], [0, 1]), ([], []), ([], []), ([], []), ([4, 5, 2], [4, 5]), ([3, 6, 6], [3, 6]), ([2, 7, 7], [2, 7]), ([8, 8], [8]), ([9, 9], [9]), ([9, 10], [9, 10]), ([11, 10, 0, 1, 2, 3, 4, 5, 6, 7, 8, 9, 10, 11], [11])])
def r4_6_B : List Nat := [0, 0, 3, 0, 0, 0, 55, 127, 255, 511, 1023, 2047, 4095]
theorem r4_6_tab : rtab .any (opsOf Tryz.f4 6) = r4_6_T := by kernel_rfl
theorem r4_6_bits : waitsOk r4_6_T.2 r4_6_B = true := by kernel_rfl
set_option maxHeartbeats 16000000 in
set_option maxRecDepth 100000 in
theorem law (A B C : Option Addr) (ca cb cc : Nat) (a b c : List (List S51)) (w : World) (ha : Rd w A ca a) (hb : Rd w B cb b) (hc : Rd w C cc c) :
    Calls Tryz.prog 4 #[.agg #[.slice A a.length ca], .agg #[.slice B b.length cb], .agg #[.slice C c.length cc]] w fun e w' => e = .returned (.bool true) ∧ Below w.heap.size w w' := by
  obtain ⟨ra, hra, fa⟩ := counts ha
  obtain ⟨rb, hrb, fb⟩ := counts hb
  obtain ⟨rc, hrc, fc⟩ := counts hc
  have RA := Aside0.mk hra
  have RB := Aside0.mk hrb
  have RC := Aside0.mk hrc
  have FA := Aside0.mk fa
  have FB := Aside0.mk fb
  have FC := Aside0.mk fc
  have HA := Aside0.mk ha
  have HB := Aside0.mk hb
  have HC := Aside0.mk hc
  clear hra hrb hrc fa fb fc ha hb hc
  go_enter Tryz.func4, Tryz.ntmps4
  go_upto_region 1 with fail
  have HW : Aside0 (Below w.heap.size w (((w.alloc (.cells #[.slice A a.length ca] 25)).alloc (.cells #[.slice B b.length cb] 25)).alloc (.cells #[.slice C c.length cc] 25))) := ⟨below_alloc (below_alloc (below_alloc (Below.refl _ _) _) _) _⟩
  have B3 : Aside0 ((((w.alloc (.cells #[.slice A a.length ca] 25)).alloc (.cells #[.slice B b.length cb] 25)).alloc (.cells #[.slice C c.length cc] 25)).heap[w.heap.size]? = some (.cells #[.slice A a.length ca] 25 (0, 0))) := ⟨blk_alloc (blk_alloc (blk_new _ _) _) _⟩
  have B4 : Aside0 ((((w.alloc (.cells #[.slice A a.length ca] 25)).alloc (.cells #[.slice B b.length cb] 25)).alloc (.cells #[.slice C c.length cc] 25)).heap[w.heap.size + 1]? = some (.cells #[.slice B b.length cb] 25 (0, 0))) := ⟨blk_alloc (by simpa using blk_new (w.alloc (.cells #[.slice A a.length ca] 25)) (.cells #[.slice B b.length cb] 25)) _⟩
  have B5 : Aside0 ((((w.alloc (.cells #[.slice A a.length ca] 25)).alloc (.cells #[.slice B b.length cb] 25)).alloc (.cells #[.slice C c.length cc] 25)).heap[w.heap.size + 1 + 1]? = some (.cells #[.slice C c.length cc] 25 (0, 0))) := ⟨by simpa using blk_new ((w.alloc (.cells #[.slice A a.length ca] 25)).alloc (.cells #[.slice B b.length cb] 25)) (.cells #[.slice C c.length cc] 25)⟩
  generalize ((w.alloc (.cells #[.slice A a.length ca] 25)).alloc (.cells #[.slice B b.length cb] 25)).alloc (.cells #[.slice C c.length cc] 25) = W0 at HW B3 B4 B5 ⊢
  have q0 : W0.cell? ⟨w.heap.size, 0, none⟩ = some (.slice A a.length ca) := (blk_cell B3.out 0).trans rfl
  have q1 : W0.cell? ⟨w.heap.size + 1, 0, none⟩ = some (.slice B b.length cb) := (blk_cell B4.out 0).trans rfl
  go_wp2_with fail
  clear q0 q1
  refine (merges (HA.out.below HW.out) (HB.out.below HW.out)).mono ?_
  rintro e W1 ⟨X, cx, rfl, hx, hb⟩
  have bl := below_alloc hb (.cells #[.slice X (mergeF a b).length cx] 25)
  have HX := Aside0.mk (hx.below (below_alloc (Below.refl _ W1) (.cells #[.slice X (mergeF a b).length cx] 25)))
  have B7 := Aside0.mk (blk_new W1 (.cells #[.slice X (mergeF a b).length cx] 25))
  replace B3 := Aside0.mk (blk_below B3.out bl)
  replace B4 := Aside0.mk (blk_below B4.out bl)
  replace B5 := Aside0.mk (blk_below B5.out bl)
  replace HW := Aside0.mk (below_step HW.out bl)
  clear bl hx hb
  go_upto_region 2 with fail
  generalize W1.alloc (.cells #[.slice X (mergeF a b).length cx] 25) = WZ at HW HX B3 B4 B5 B7 ⊢
  generalize W1.heap.size = g7 at B7 ⊢
  replace HA := Aside0.mk (HA.out.below HW.out)
  replace HB := Aside0.mk (HB.out.below HW.out)
  replace HC := Aside0.mk (HC.out.below HW.out)
  have HV := Aside0.mk (below_drew (Below.refl WZ.heap.size WZ))
  have FX : Aside0 (∀ w' : World, Below WZ.heap.size WZ w' → w'.cell? ⟨g7, 0, none⟩ = some (.slice X (mergeF a b).length cx) ∧ w'.cell? ⟨w.heap.size, 0, none⟩ = some (.slice A a.length ca) ∧ w'.cell? ⟨w.heap.size + 1, 0, none⟩ = some (.slice B b.length cb) ∧ w'.cell? ⟨w.heap.size + 1 + 1, 0, none⟩ = some (.slice C c.length cc)) := ⟨fun w' hb => ⟨(blk_cell (blk_below B7.out hb) 0).trans rfl, (blk_cell (blk_below B3.out hb) 0).trans rfl, (blk_cell (blk_below B4.out hb) 0).trans rfl, (blk_cell (blk_below B5.out hb) 0).trans rfl⟩⟩
  obtain ⟨WY, hWY⟩ : ∃ WY : World, WY = WZ := ⟨_, rfl⟩
  rw [← hWY] at FX HA HB HC HX HV HW
  rw [← hWY]
  refine start_ (n := 22) (S := fun w' => w'.cell? ⟨g7, 0, none⟩ = some (.slice X (mergeF a b).length cx) ∧ w'.cell? ⟨w.heap.size, 0, none⟩ = some (.slice A a.length ca) ∧ w'.cell? ⟨w.heap.size + 1, 0, none⟩ = some (.slice B b.length cb) ∧ w'.cell? ⟨w.heap.size + 1 + 1, 0, none⟩ = some (.slice C c.length cc)) (ds := []) #[false, false, false, false, false, false, false, false, false, false, false, false, false, false, false, false, false, false, false, false, false, false] (by kernel_rfl) rfl rfl (FX.out _ HV.out) (fun hHeld => ?_)
  refine with_tabW r4_2_tab r4_2_bits (fun HT_ HW_ => ?_)
  generalize World.drew WY = Z0 at HV hHeld ⊢
  refine take_ (i := 0) (N := some 11) (v := ?_) (a' := ?_) #[true, false, false, false, false, false, false, false, false, false, false, false, false, false, false, false, false, false, false, false, false, false] rfl rfl (take_ofW HT_.out HW_.out (by kernel_rfl)) (fun _ _ _ h => h) (Or.inl ⟨by rfl, ?_⟩) hHeld ?_ ?_
  rotate_left
  · rintro w' ⟨s0, s1, s2, s3⟩
    go_simp
    with_reducible rfl
  rotate_left
  · simp only [Act.put, List.setIfInBounds_toArray, List.set_cons_zero, List.set_cons_succ, i64_w, i32_w]
    rfl
  refine take_ (i := 1) (N := some 12) (v := ?_) (a' := ?_) #[true, true, false, false, false, false, false, false, false, false, false, false, false, false, false, false, false, false, false, false, false, false] rfl rfl (take_ofW HT_.out HW_.out (by kernel_rfl)) (fun _ _ _ h => h) (Or.inl ⟨by rfl, ?_⟩) hHeld ?_ ?_
  rotate_left
  · rintro w' ⟨s0, s1, s2, s3⟩
    go_simp
    with_reducible rfl
  rotate_left
  · simp only [Act.put, List.setIfInBounds_toArray, List.set_cons_zero, List.set_cons_succ, i64_w, i32_w]
    rfl
  refine take_ (i := 2) (N := some 13) (v := ?_) (a' := ?_) #[true, true, true, false, false, false, false, false, false, false, false, false, false, false, false, false, false, false, false, false, false, false] rfl rfl (take_ofW HT_.out HW_.out (by kernel_rfl)) (fun _ _ _ h => h) (Or.inl ⟨by rfl, ?_⟩) hHeld ?_ ?_
  rotate_left
  · rintro w' ⟨s0, s1, s2, s3⟩
    go_simp
    with_reducible rfl
  rotate_left
  · simp only [Act.put, List.setIfInBounds_toArray, List.set_cons_zero, List.set_cons_succ, i64_w, i32_w]
    rfl
  refine one_ (i := 3) (N := some 14) #[true, true, true, true, false, false, false, false, false, false, false, false, false, false, false, false, false, false, false, false, false, false] rfl rfl (one_of HT_.out (by kernel_rfl)) (by decide) (fun K hK => ?_)
  refine goes_ Tryz.func8 (by kernel_rfl) rfl #[.agg #[.slice B b.length cb], .agg #[.slice A a.length ca]] (by rfl) rfl rfl (by (try simp only [List.map_toArray, List.map_cons, List.map_nil]); first | done | rfl) ?_
  refine (merges (HB.out.below HV.out) (HA.out.below HV.out)).mono ?_
  rintro e Z1 ⟨Y1, cY1, rfl, hY1, hb⟩
  refine ⟨_, rfl, ?_⟩
  have HY1 := Aside0.mk hY1
  replace HV := Aside0.mk (below_step HV.out hb)
  clear hb hY1
  refine hK.out _ _ (FX.out _ HV.out) (fun hHeld => ?_)
  clear hK K
  refine norm_ (a' := ?_) ?_ ?_
  rotate_left
  · show Act.put _ (some 14) _ = _
    simp only [Act.put, List.setIfInBounds_toArray, List.set_cons_zero, List.set_cons_succ, i64_w, i32_w]
    rfl
  refine one_ (i := 4) (N := some 15) #[true, true, true, true, true, false, false, false, false, false, false, false, false, false, false, false, false, false, false, false, false, false] rfl rfl (one_of HT_.out (by kernel_rfl)) (by decide) (fun K hK => ?_)
  refine goes_ Tryz.func9 (by kernel_rfl) rfl #[.agg #[.slice X (mergeF a b).length cx], .agg #[.slice Y1 (mergeF b a).length cY1]] (by rfl) rfl rfl (by (try simp only [List.map_toArray, List.map_cons, List.map_nil]); first | done | rfl) ?_
  refine (sames (HX.out.below HV.out) (HY1.out) (merge_comm HA.out.rg HB.out.rg)).mono ?_
  rintro e Z2 ⟨rfl, hb⟩
  refine ⟨_, rfl, ?_⟩
  replace HV := Aside0.mk (below_step HV.out hb)
  clear hb
  refine hK.out _ _ (FX.out _ HV.out) (fun hHeld => ?_)
  clear hK K
  refine norm_ (a' := ?_) ?_ ?_
  rotate_left
  · show Act.put _ (some 15) _ = _
    simp only [Act.put, List.setIfInBounds_toArray, List.set_cons_zero, List.set_cons_succ, i64_w, i32_w]
    rfl
  clear HY1
  refine pure_ (i := 5) (N := some 16) (v := ?_) (a' := ?_) #[true, true, true, true, true, true, false, false, false, false, false, false, false, false, false, false, false, false, false, false, false, false] rfl rfl (any_of HT_.out (by kernel_rfl)) (fun _ _ _ h => h) (Or.inl ⟨by rfl, ?_⟩) ?_ ?_
  rotate_left
  · intro w'
    go_simp
    with_reducible rfl
  rotate_left
  · simp only [Act.put, List.setIfInBounds_toArray, List.set_cons_zero, List.set_cons_succ, i64_w, i32_w]
    rfl
  refine pure_ (i := 6) (N := some 17) (v := ?_) (a' := ?_) #[true, true, true, true, true, true, true, false, false, false, false, false, false, false, false, false, false, false, false, false, false, false] rfl rfl (any_of HT_.out (by kernel_rfl)) (fun _ _ _ h => h) (Or.inl ⟨by rfl, ?_⟩) ?_ ?_
  rotate_left
  · intro w'
    go_simp
    with_reducible rfl
  rotate_left
  · simp only [Act.put, List.setIfInBounds_toArray, List.set_cons_zero, List.set_cons_succ, i64_w, i32_w]
    rfl
  refine take_ (i := 7) (N := some 18) (v := ?_) (a' := ?_) #[true, true, true, true, true, true, true, true, false, false, false, false, false, false, false, false, false, false, false, false, false, false] rfl rfl (take_ofW HT_.out HW_.out (by kernel_rfl)) (fun _ _ _ h => h) (Or.inl ⟨by rfl, ?_⟩) hHeld ?_ ?_
  rotate_left
  · rintro w' ⟨s0, s1, s2, s3⟩
    go_simp
    with_reducible rfl
  rotate_left
  · simp only [Act.put, List.setIfInBounds_toArray, List.set_cons_zero, List.set_cons_succ, i64_w, i32_w]
    rfl
  refine pure_ (i := 8) (N := some 19) (v := ?_) (a' := ?_) #[true, true, true, true, true, true, true, true, true, false, false, false, false, false, false, false, false, false, false, false, false, false] rfl rfl (any_of HT_.out (by kernel_rfl)) (fun _ _ _ h => h) (Or.inl ⟨by rfl, ?_⟩) ?_ ?_
  rotate_left
  · intro w'
    go_simp
    with_reducible rfl
  rotate_left
  · simp only [Act.put, List.setIfInBounds_toArray, List.set_cons_zero, List.set_cons_succ, i64_w, i32_w]
    rfl
  refine take_ (i := 10) (N := some 21) (v := ?_) (a' := ?_) #[true, true, true, true, true, true, true, true, true, false, true, false, false, false, false, false, false, false, false, false, false, false] rfl rfl (take_ofW HT_.out HW_.out (by kernel_rfl)) (fun _ _ _ h => h) (Or.inl ⟨by rfl, ?_⟩) hHeld ?_ ?_
  rotate_left
  · rintro w' ⟨s0, s1, s2, s3⟩
    go_simp
    with_reducible rfl
  rotate_left
  · simp only [Act.put, List.setIfInBounds_toArray, List.set_cons_zero, List.set_cons_succ, i64_w, i32_w]
    rfl
  refine one_ (i := 9) (N := some 20) #[true, true, true, true, true, true, true, true, true, true, true, false, false, false, false, false, false, false, false, false, false, false] rfl rfl (one_of HT_.out (by kernel_rfl)) (by decide) (fun K hK => ?_)
  refine goes_ Tryz.func8 (by kernel_rfl) rfl #[.agg #[.slice A a.length ca], .agg #[.slice none ([] : List (List S51)).length 0]] (by rfl) rfl rfl (by (try simp only [List.map_toArray, List.map_cons, List.map_nil]); first | done | rfl) ?_
  refine (merges (HA.out.below HV.out) (Rd.nil _)).mono ?_
  rintro e Z3 ⟨Y2, cY2, rfl, hY2, hb⟩
  refine ⟨_, rfl, ?_⟩
  have HY2 := Aside0.mk hY2
  replace HV := Aside0.mk (below_step HV.out hb)
  clear hb hY2
  refine hK.out _ _ (FX.out _ HV.out) (fun hHeld => ?_)
  clear hK K
  refine norm_ (a' := ?_) ?_ ?_
  rotate_left
  · show Act.put _ (some 20) _ = _
    simp only [Act.put, List.setIfInBounds_toArray, List.set_cons_zero, List.set_cons_succ, i64_w, i32_w]
    rfl
  refine one_ (i := 11) (N := some 22) #[true, true, true, true, true, true, true, true, true, true, true, true, false, false, false, false, false, false, false, false, false, false] rfl rfl (one_of HT_.out (by kernel_rfl)) (by decide) (fun K hK => ?_)
  refine goes_ Tryz.func9 (by kernel_rfl) rfl #[.agg #[.slice Y2 (mergeF a []).length cY2], .agg #[.slice A a.length ca]] (by rfl) rfl rfl (by (try simp only [List.map_toArray, List.map_cons, List.map_nil]); first | done | rfl) ?_
  refine (sames (HY2.out) (HA.out.below HV.out) (merge_nil HA.out.rg)).mono ?_
  rintro e Z4 ⟨rfl, hb⟩
  refine ⟨_, rfl, ?_⟩
  replace HV := Aside0.mk (below_step HV.out hb)
  clear hb
  refine hK.out _ _ (FX.out _ HV.out) (fun hHeld => ?_)
  clear hK K
  refine norm_ (a' := ?_) ?_ ?_
  rotate_left
  · show Act.put _ (some 22) _ = _
    simp only [Act.put, List.setIfInBounds_toArray, List.set_cons_zero, List.set_cons_succ, i64_w, i32_w]
    rfl
  clear HY2
  refine pure_ (i := 12) (N := some 23) (v := ?_) (a' := ?_) #[true, true, true, true, true, true, true, true, true, true, true, true, true, false, false, false, false, false, false, false, false, false] rfl rfl (any_of HT_.out (by kernel_rfl)) (fun _ _ _ h => h) (Or.inl ⟨by rfl, ?_⟩) ?_ ?_
  rotate_left
  · intro w'
    go_simp
    with_reducible rfl
  rotate_left
  · simp only [Act.put, List.setIfInBounds_toArray, List.set_cons_zero, List.set_cons_succ, i64_w, i32_w]
    rfl
  refine pure_ (i := 13) (N := some 24) (v := ?_) (a' := ?_) #[true, true, true, true, true, true, true, true, true, true, true, true, true, true, false, false, false, false, false, false, false, false] rfl rfl (any_of HT_.out (by kernel_rfl)) (fun _ _ _ h => h) (Or.inl ⟨by rfl, ?_⟩) ?_ ?_
  rotate_left
  · intro w'
    go_simp
    with_reducible rfl
  rotate_left
  · simp only [Act.put, List.setIfInBounds_toArray, List.set_cons_zero, List.set_cons_succ, i64_w, i32_w]
    rfl
  refine pure_ (i := 14) (N := some 25) (v := ?_) (a' := ?_) #[true, true, true, true, true, true, true, true, true, true, true, true, true, true, true, false, false, false, false, false, false, false] rfl rfl (any_of HT_.out (by kernel_rfl)) (fun _ _ _ h => h) (Or.inl ⟨by rfl, ?_⟩) ?_ ?_
  rotate_left
  · intro w'
    go_simp
    with_reducible rfl
  rotate_left
  · simp only [Act.put, List.setIfInBounds_toArray, List.set_cons_zero, List.set_cons_succ, i64_w, i32_w]
    rfl
  refine pure_ (i := 15) (N := some 26) (v := ?_) (a' := ?_) #[true, true, true, true, true, true, true, true, true, true, true, true, true, true, true, true, false, false, false, false, false, false] rfl rfl (any_of HT_.out (by kernel_rfl)) (fun _ _ _ h => h) (Or.inl ⟨by rfl, ?_⟩) ?_ ?_
  rotate_left
  · intro w'
    go_simp
    with_reducible rfl
  rotate_left
  · simp only [Act.put, List.setIfInBounds_toArray, List.set_cons_zero, List.set_cons_succ, i64_w, i32_w]
    rfl
  refine take_ (i := 16) (N := some 27) (v := ?_) (a' := ?_) #[true, true, true, true, true, true, true, true, true, true, true, true, true, true, true, true, true, false, false, false, false, false] rfl rfl (take_ofW HT_.out HW_.out (by kernel_rfl)) (fun _ _ _ h => h) (Or.inl ⟨by rfl, ?_⟩) hHeld ?_ ?_
  rotate_left
  · rintro w' ⟨s0, s1, s2, s3⟩
    go_simp
    with_reducible rfl
  rotate_left
  · simp only [Act.put, List.setIfInBounds_toArray, List.set_cons_zero, List.set_cons_succ, i64_w, i32_w]
    rfl
  refine take_ (i := 18) (N := some 29) (v := ?_) (a' := ?_) #[true, true, true, true, true, true, true, true, true, true, true, true, true, true, true, true, true, false, true, false, false, false] rfl rfl (take_ofW HT_.out HW_.out (by kernel_rfl)) (fun _ _ _ h => h) (Or.inl ⟨by rfl, ?_⟩) hHeld ?_ ?_
  rotate_left
  · rintro w' ⟨s0, s1, s2, s3⟩
    go_simp
    with_reducible rfl
  rotate_left
  · simp only [Act.put, List.setIfInBounds_toArray, List.set_cons_zero, List.set_cons_succ, i64_w, i32_w]
    rfl
  refine one_ (i := 17) (N := some 28) #[true, true, true, true, true, true, true, true, true, true, true, true, true, true, true, true, true, true, true, false, false, false] rfl rfl (one_of HT_.out (by kernel_rfl)) (by decide) (fun K hK => ?_)
  refine goes_ Tryz.func8 (by kernel_rfl) rfl #[.agg #[.slice none ([] : List (List S51)).length 0], .agg #[.slice A a.length ca]] (by rfl) rfl rfl (by (try simp only [List.map_toArray, List.map_cons, List.map_nil]); first | done | rfl) ?_
  refine (merges (Rd.nil _) (HA.out.below HV.out)).mono ?_
  rintro e Z5 ⟨Y3, cY3, rfl, hY3, hb⟩
  refine ⟨_, rfl, ?_⟩
  have HY3 := Aside0.mk hY3
  replace HV := Aside0.mk (below_step HV.out hb)
  clear hb hY3
  refine hK.out _ _ (FX.out _ HV.out) (fun hHeld => ?_)
  clear hK K
  refine norm_ (a' := ?_) ?_ ?_
  rotate_left
  · show Act.put _ (some 28) _ = _
    simp only [Act.put, List.setIfInBounds_toArray, List.set_cons_zero, List.set_cons_succ, i64_w, i32_w]
    rfl
  refine one_ (i := 19) (N := some 30) #[true, true, true, true, true, true, true, true, true, true, true, true, true, true, true, true, true, true, true, true, false, false] rfl rfl (one_of HT_.out (by kernel_rfl)) (by decide) (fun K hK => ?_)
  refine goes_ Tryz.func9 (by kernel_rfl) rfl #[.agg #[.slice Y3 (mergeF [] a).length cY3], .agg #[.slice A a.length ca]] (by rfl) rfl rfl (by (try simp only [List.map_toArray, List.map_cons, List.map_nil]); first | done | rfl) ?_
  refine (sames (HY3.out) (HA.out.below HV.out) (nil_merge HA.out.rg)).mono ?_
  rintro e Z6 ⟨rfl, hb⟩
  refine ⟨_, rfl, ?_⟩
  replace HV := Aside0.mk (below_step HV.out hb)
  clear hb
  refine hK.out _ _ (FX.out _ HV.out) (fun hHeld => ?_)
  clear hK K
  refine norm_ (a' := ?_) ?_ ?_
  rotate_left
  · show Act.put _ (some 30) _ = _
    simp only [Act.put, List.setIfInBounds_toArray, List.set_cons_zero, List.set_cons_succ, i64_w, i32_w]
    rfl
  clear HY3
  refine pure_ (i := 20) (N := some 31) (v := ?_) (a' := ?_) #[true, true, true, true, true, true, true, true, true, true, true, true, true, true, true, true, true, true, true, true, true, false] rfl rfl (any_of HT_.out (by kernel_rfl)) (fun _ _ _ h => h) (Or.inl ⟨by rfl, ?_⟩) ?_ ?_
  rotate_left
  · intro w'
    go_simp
    with_reducible rfl
  rotate_left
  · simp only [Act.put, List.setIfInBounds_toArray, List.set_cons_zero, List.set_cons_succ, i64_w, i32_w]
    rfl
  refine pure_ (i := 21) (N := some 32) (v := ?_) (a' := ?_) #[true, true, true, true, true, true, true, true, true, true, true, true, true, true, true, true, true, true, true, true, true, true] rfl rfl (any_of HT_.out (by kernel_rfl)) (fun _ _ _ h => h) (Or.inl ⟨by rfl, ?_⟩) ?_ ?_
  rotate_left
  · intro w'
    go_simp
    with_reducible rfl
  rotate_left
  · simp only [Act.put, List.setIfInBounds_toArray, List.set_cons_zero, List.set_cons_succ, i64_w, i32_w]
    rfl
  refine done_ (done_of HT_.out (by kernel_rfl)) ?_
  clear hHeld
  have q3 : Z6.cell? ⟨w.heap.size, 0, none⟩ = some (.slice A a.length ca) := (FX.out _ HV.out).2.1
  replace FA := Aside0.mk (FA.out Z6 (below_step HW.out HV.out))
  go_wp2_with fail
  clear q3
  refine FA.out.mono ?_
  rintro e Z7 ⟨rfl, hb⟩
  replace HV := Aside0.mk (below_step HV.out hb)
  clear hb FA
  by_cases ha1 : ra = false
  · subst ha1
    go_wp2_with fail
    refine (FormsS.shown_calls Z7).mono ?_
    rintro e Z8 ⟨rfl, hb⟩
    go_wp2_with fail
    go_ret
    exact ⟨rfl, below_step HW.out (below_step HV.out hb)⟩
  obtain rfl : ra = true := by simpa using ha1
  have q4 : Z7.cell? ⟨w.heap.size + 1, 0, none⟩ = some (.slice B b.length cb) := (FX.out _ HV.out).2.2.1
  replace FB := Aside0.mk (FB.out Z7 (below_step HW.out HV.out))
  go_wp2_with fail
  clear q4
  refine FB.out.mono ?_
  rintro e Z8 ⟨rfl, hb⟩
  replace HV := Aside0.mk (below_step HV.out hb)
  clear hb FB
  by_cases hb1 : rb = false
  · subst hb1
    go_wp2_with fail
    refine (FormsS.shown_calls Z8).mono ?_
    rintro e Z9 ⟨rfl, hb⟩
    go_wp2_with fail
    go_ret
    exact ⟨rfl, below_step HW.out (below_step HV.out hb)⟩
  obtain rfl : rb = true := by simpa using hb1
  have q5 : Z8.cell? ⟨w.heap.size + 1 + 1, 0, none⟩ = some (.slice C c.length cc) := (FX.out _ HV.out).2.2.2
  replace FC := Aside0.mk (FC.out Z8 (below_step HW.out HV.out))
  go_wp2_with fail
  clear q5
  refine FC.out.mono ?_
  rintro e Z9 ⟨rfl, hb⟩
  replace HV := Aside0.mk (below_step HV.out hb)
  clear hb FC
  by_cases hc1 : rc = false
  · subst hc1
    go_wp2_with fail
    refine (FormsS.shown_calls Z9).mono ?_
    rintro e Z10 ⟨rfl, hb⟩
    go_wp2_with fail
    go_ret
    exact ⟨rfl, below_step HW.out (below_step HV.out hb)⟩
  obtain rfl : rc = true := by simpa using hc1
  have HE := Aside0.mk (merge_assoc HA.out.rg HB.out.rg HC.out.rg (RA.out (by trivial)) (RB.out (by trivial)) (RC.out (by trivial)))
  clear RA RB RC
  go_upto_region 6 with fail
  replace HV := Aside0.mk (below_step HV.out (below_drew (Below.refl _ Z9)))
  refine start_ (n := 13) (S := fun w' => w'.cell? ⟨g7, 0, none⟩ = some (.slice X (mergeF a b).length cx) ∧ w'.cell? ⟨w.heap.size, 0, none⟩ = some (.slice A a.length ca) ∧ w'.cell? ⟨w.heap.size + 1, 0, none⟩ = some (.slice B b.length cb) ∧ w'.cell? ⟨w.heap.size + 1 + 1, 0, none⟩ = some (.slice C c.length cc)) (ds := []) #[false, false, false, false, false, false, false, false, false, false, false, false, false] (by kernel_rfl) rfl rfl (FX.out _ HV.out) (fun hHeld => ?_)
  refine with_tabW r4_6_tab r4_6_bits (fun HT_ HW_ => ?_)
  generalize World.drew Z9 = V0 at HV hHeld ⊢
  refine take_ (i := 0) (N := some 47) (v := ?_) (a' := ?_) #[true, false, false, false, false, false, false, false, false, false, false, false, false] rfl rfl (take_ofW HT_.out HW_.out (by kernel_rfl)) (fun _ _ _ h => h) (Or.inl ⟨by rfl, ?_⟩) hHeld ?_ ?_
  rotate_left
  · rintro w' ⟨s0, s1, s2, s3⟩
    go_simp
    with_reducible rfl
  rotate_left
  · simp only [Act.put, List.setIfInBounds_toArray, List.set_cons_zero, List.set_cons_succ, i64_w, i32_w]
    rfl
  refine take_ (i := 1) (N := some 48) (v := ?_) (a' := ?_) #[true, true, false, false, false, false, false, false, false, false, false, false, false] rfl rfl (take_ofW HT_.out HW_.out (by kernel_rfl)) (fun _ _ _ h => h) (Or.inl ⟨by rfl, ?_⟩) hHeld ?_ ?_
  rotate_left
  · rintro w' ⟨s0, s1, s2, s3⟩
    go_simp
    with_reducible rfl
  rotate_left
  · simp only [Act.put, List.setIfInBounds_toArray, List.set_cons_zero, List.set_cons_succ, i64_w, i32_w]
    rfl
  refine take_ (i := 3) (N := some 50) (v := ?_) (a' := ?_) #[true, true, false, true, false, false, false, false, false, false, false, false, false] rfl rfl (take_ofW HT_.out HW_.out (by kernel_rfl)) (fun _ _ _ h => h) (Or.inl ⟨by rfl, ?_⟩) hHeld ?_ ?_
  rotate_left
  · rintro w' ⟨s0, s1, s2, s3⟩
    go_simp
    with_reducible rfl
  rotate_left
  · simp only [Act.put, List.setIfInBounds_toArray, List.set_cons_zero, List.set_cons_succ, i64_w, i32_w]
    rfl
  refine take_ (i := 4) (N := some 51) (v := ?_) (a' := ?_) #[true, true, false, true, true, false, false, false, false, false, false, false, false] rfl rfl (take_ofW HT_.out HW_.out (by kernel_rfl)) (fun _ _ _ h => h) (Or.inl ⟨by rfl, ?_⟩) hHeld ?_ ?_
  rotate_left
  · rintro w' ⟨s0, s1, s2, s3⟩
    go_simp
    with_reducible rfl
  rotate_left
  · simp only [Act.put, List.setIfInBounds_toArray, List.set_cons_zero, List.set_cons_succ, i64_w, i32_w]
    rfl
  refine take_ (i := 5) (N := some 52) (v := ?_) (a' := ?_) #[true, true, false, true, true, true, false, false, false, false, false, false, false] rfl rfl (take_ofW HT_.out HW_.out (by kernel_rfl)) (fun _ _ _ h => h) (Or.inl ⟨by rfl, ?_⟩) hHeld ?_ ?_
  rotate_left
  · rintro w' ⟨s0, s1, s2, s3⟩
    go_simp
    with_reducible rfl
  rotate_left
  · simp only [Act.put, List.setIfInBounds_toArray, List.set_cons_zero, List.set_cons_succ, i64_w, i32_w]
    rfl
  refine one_ (i := 2) (N := some 49) #[true, true, true, true, true, true, false, false, false, false, false, false, false] rfl rfl (one_of HT_.out (by kernel_rfl)) (by decide) (fun K hK => ?_)
  refine goes_ Tryz.func8 (by kernel_rfl) rfl #[.agg #[.slice X (mergeF a b).length cx], .agg #[.slice C c.length cc]] (by rfl) rfl rfl (by (try simp only [List.map_toArray, List.map_cons, List.map_nil]); first | done | rfl) ?_
  refine (merges (HX.out.below HV.out) (HC.out.below HV.out)).mono ?_
  rintro e V1 ⟨U, cU, rfl, hU, hb⟩
  refine ⟨_, rfl, ?_⟩
  have HU := Aside0.mk hU
  replace HV := Aside0.mk (below_step HV.out hb)
  clear hb hU
  refine hK.out _ _ (FX.out _ HV.out) (fun hHeld => ?_)
  clear hK K
  refine norm_ (a' := ?_) ?_ ?_
  rotate_left
  · show Act.put _ (some 49) _ = _
    simp only [Act.put, List.setIfInBounds_toArray, List.set_cons_zero, List.set_cons_succ, i64_w, i32_w]
    rfl
  refine one_ (i := 6) (N := some 53) #[true, true, true, true, true, true, true, false, false, false, false, false, false] rfl rfl (one_of HT_.out (by kernel_rfl)) (by decide) (fun K hK => ?_)
  refine goes_ Tryz.func8 (by kernel_rfl) rfl #[.agg #[.slice B b.length cb], .agg #[.slice C c.length cc]] (by rfl) rfl rfl (by (try simp only [List.map_toArray, List.map_cons, List.map_nil]); first | done | rfl) ?_
  refine (merges (HB.out.below HV.out) (HC.out.below HV.out)).mono ?_
  rintro e V2 ⟨G, cG, rfl, hG, hb⟩
  refine ⟨_, rfl, ?_⟩
  have HG := Aside0.mk hG
  replace HV := Aside0.mk (below_step HV.out hb)
  replace HU := Aside0.mk (HU.out.below hb)
  clear hb hG
  refine hK.out _ _ (FX.out _ HV.out) (fun hHeld => ?_)
  clear hK K
  refine norm_ (a' := ?_) ?_ ?_
  rotate_left
  · show Act.put _ (some 53) _ = _
    simp only [Act.put, List.setIfInBounds_toArray, List.set_cons_zero, List.set_cons_succ, i64_w, i32_w]
    rfl
  refine one_ (i := 7) (N := some 54) #[true, true, true, true, true, true, true, true, false, false, false, false, false] rfl rfl (one_of HT_.out (by kernel_rfl)) (by decide) (fun K hK => ?_)
  refine goes_ Tryz.func8 (by kernel_rfl) rfl #[.agg #[.slice A a.length ca], .agg #[.slice G (mergeF b c).length cG]] (by rfl) rfl rfl (by (try simp only [List.map_toArray, List.map_cons, List.map_nil]); first | done | rfl) ?_
  refine (merges (HA.out.below HV.out) (HG.out)).mono ?_
  rintro e V3 ⟨Y, cY, rfl, hY, hb⟩
  refine ⟨_, rfl, ?_⟩
  have HY := Aside0.mk hY
  replace HV := Aside0.mk (below_step HV.out hb)
  replace HU := Aside0.mk (HU.out.below hb)
  replace HG := Aside0.mk (HG.out.below hb)
  clear hb hY
  refine hK.out _ _ (FX.out _ HV.out) (fun hHeld => ?_)
  clear hK K
  refine norm_ (a' := ?_) ?_ ?_
  rotate_left
  · show Act.put _ (some 54) _ = _
    simp only [Act.put, List.setIfInBounds_toArray, List.set_cons_zero, List.set_cons_succ, i64_w, i32_w]
    rfl
  refine one_ (i := 8) (N := some 55) #[true, true, true, true, true, true, true, true, true, false, false, false, false] rfl rfl (one_of HT_.out (by kernel_rfl)) (by decide) (fun K hK => ?_)
  refine goes_ Tryz.func9 (by kernel_rfl) rfl #[.agg #[.slice U (mergeF (mergeF a b) c).length cU], .agg #[.slice Y (mergeF a (mergeF b c)).length cY]] (by rfl) rfl rfl (by (try simp only [List.map_toArray, List.map_cons, List.map_nil]); first | done | rfl) ?_
  refine (sames (HU.out) (HY.out) HE.out).mono ?_
  rintro e V4 ⟨rfl, hb⟩
  refine ⟨_, rfl, ?_⟩
  replace HV := Aside0.mk (below_step HV.out hb)
  clear hb
  refine hK.out _ _ (FX.out _ HV.out) (fun hHeld => ?_)
  clear hK K
  refine norm_ (a' := ?_) ?_ ?_
  rotate_left
  · show Act.put _ (some 55) _ = _
    simp only [Act.put, List.setIfInBounds_toArray, List.set_cons_zero, List.set_cons_succ, i64_w, i32_w]
    rfl
  refine pure_ (i := 9) (N := some 56) (v := ?_) (a' := ?_) #[true, true, true, true, true, true, true, true, true, true, false, false, false] rfl rfl (any_of HT_.out (by kernel_rfl)) (fun _ _ _ h => h) (Or.inl ⟨by rfl, ?_⟩) ?_ ?_
  rotate_left
  · intro w'
    go_simp
    with_reducible rfl
  rotate_left
  · simp only [Act.put, List.setIfInBounds_toArray, List.set_cons_zero, List.set_cons_succ, i64_w, i32_w]
    rfl
  refine one_ (i := 10) (N := some 57) #[true, true, true, true, true, true, true, true, true, true, true, false, false] rfl rfl (one_of HT_.out (by kernel_rfl)) (by decide) (fun K hK => ?_)
  refine goes_ Tryz.func6 (by kernel_rfl) rfl #[] (by rfl) rfl rfl (by (try simp only [List.map_toArray, List.map_cons, List.map_nil]); first | done | rfl) ?_
  refine (FormsS.shown_calls _).mono ?_
  rintro e V5 ⟨rfl, hb⟩
  refine ⟨_, rfl, ?_⟩
  replace HV := Aside0.mk (below_step HV.out hb)
  clear hb
  refine hK.out _ _ (FX.out _ HV.out) (fun hHeld => ?_)
  clear hK K
  refine norm_ (a' := ?_) ?_ ?_
  rotate_left
  · show Act.put _ (some 57) _ = _
    simp only [Act.put, List.setIfInBounds_toArray, List.set_cons_zero, List.set_cons_succ, i64_w, i32_w]
    rfl
  refine pure_ (i := 11) (N := some 58) (v := ?_) (a' := ?_) #[true, true, true, true, true, true, true, true, true, true, true, true, false] rfl rfl (any_of HT_.out (by kernel_rfl)) (fun _ _ _ h => h) (Or.inl ⟨by rfl, ?_⟩) ?_ ?_
  rotate_left
  · intro w'
    go_simp
    with_reducible rfl
  rotate_left
  · simp only [Act.put, List.setIfInBounds_toArray, List.set_cons_zero, List.set_cons_succ, i64_w, i32_w]
    rfl
  refine pure_ (i := 12) (N := some 6) (v := ?_) (a' := ?_) #[true, true, true, true, true, true, true, true, true, true, true, true, true] rfl rfl (any_of HT_.out (by kernel_rfl)) (fun _ _ _ h => h) (Or.inl ⟨by rfl, ?_⟩) ?_ ?_
  rotate_left
  · intro w'
    go_simp
    with_reducible rfl
  rotate_left
  · simp only [Act.put, List.setIfInBounds_toArray, List.set_cons_zero, List.set_cons_succ, i64_w, i32_w]
    rfl
  refine done_ (done_of HT_.out (by kernel_rfl)) ?_
  go_wp2_with fail
  go_ret
  exact ⟨rfl, below_step HW.out HV.out⟩
end Go.Proofs.YtjeaojolhdfpeaaGreat.MeetsLaw
